/- Library contracts of the evaluator, second part. -/
import Derived.Test.YtjbckgabnkljlaaGreatDoorEvG
import Derived.Lib.LaidTab
import Derived.Sort.Grow
import Derived.Deep.Draws

section
set_option linter.unusedVariables false
set_option linter.unusedSimpArgs false
namespace Go.Ev

/-! ### the same program, other facts -/
def Cx.withF (X : Cx) (fc : List Fact) : Cx := { P := X.P, E := X.E, ng := X.ng, ok := X.ok, fc := fc, gn := X.gn, rt := X.rt, rtok := X.rtok }
theorem RelC.withF {X : Cx} {fc : List Fact} {σ : Sig} {w : World} {B : Bk} {x : Blk} : RelC (X.withF fc) σ w B x ↔ RelC X σ w B x := by cases x <;> exact Iff.rfl
theorem CallD.quietW {X : Cx} {fc : List Fact} {f : Nat} {l v : AV} {h0 h1 : H} (hc : CallD X f l h0 v h1) (hro : AllRo h0) (hcells : ∀ b x, h0.get b = some x → b < h0.next ∧ ∃ cs el fz p z, x.c = .cells cs el fz p z ∧ bndV h0.next cs = true) (hng : X.ng ≤ h0.next) (hfc : X.fc = []) (hl : bndV h0.next l = true)
    (hv : ∀ {σ τ : Sig} {x : Value}, V σ v x → V τ v x) {h : H} (hext : ∀ b x, h0.get b = some x → h.get b = some x) : CallD (X.withF fc) f l h v h := by
  intro σ G w vs hvs ho he hfr
  let σ0 : Sig := ⟨fun b => if b < h0.next then σ.bk b else none, σ.sym⟩
  have hle0 : ∀ b x, σ0.bk b = some x → σ.bk b = some x := by
    intro b x hx
    have hx : (if b < h0.next then σ.bk b else none) = some x := hx
    split at hx
    · exact hx
    · cases hx
  have hle : σ0.le σ := ⟨hle0, rfl⟩
  have hbk : ∀ b, b < h0.next → σ.bk b = σ0.bk b := fun b hb => (if_pos hb).symm
  have ok0 : Ok X σ0 h0.get w := by
    refine ⟨fun c x hx => ?_, fun c c' C C' x x' hne hx hx' hC hC' => ?_, ⟨fun g hg => ?_, fun e he => ?_, fun g hg B hB => ?_⟩⟩
    · obtain ⟨hlt, cs, el, fz, p, z, e, hbnd⟩ := hcells c x hx
      obtain ⟨B, hB, hr⟩ := ho.rel c x (he c x (hext c x hx))
      rw [RelC.withF, e] at hr
      rw [e]
      exact ⟨B, by rw [← hbk c hlt]; exact hB, hr.back hle hbk hbnd⟩
    · exact ho.sep c c' C C' x x' hne (he c x (hext c x hx)) (he c' x' (hext c' x' hx')) (hle.1 _ _ hC) (hle.1 _ _ hC')
    · obtain ⟨B, h1, h2⟩ := ho.sane.glob g hg
      exact ⟨B, by rw [← hbk g (Nat.lt_of_lt_of_le hg hng)]; exact h1, h2⟩
    · rw [hfc] at he; cases he
    · exact ho.sane.gsz g hg B (hle0 _ _ hB)
  obtain ⟨c1, c2⟩ := hc σ0 h0.get w vs ((R.back hle hbk l hl).2 _ hvs) ok0 (Ext.refl _) fun b hb _ => if_neg (by omega)
  refine ⟨c1, CallsIn.mono c2 fun e w' he' => ?_⟩
  cases e with
  | panicked c => exact he'.elim
  | outgrown => exact he'.elim
  | returned x =>
    obtain ⟨τ, hV, hp⟩ := he'
    have hno : ∀ r, ¬ Owned σ0 h0.get r := by
      rintro r ⟨b, x, B, hx, hxr, _⟩
      rw [hro b x hx] at hxr; cases hxr
    have hkeep : ∀ r, r < w.heap.size → w'.heap[r]? = w.heap[r]? := fun r hr => hp.frame r hr (hno r)
    refine ⟨σ, hv hV, ?_⟩
    rw [app_self]
    refine ⟨.refl _, fun _ _ => rfl, ⟨fun c x hx => ?_, ho.sep, ho.sane⟩, hp.os, hp.tape, hp.output, hp.size, fun r hr _ => hkeep r hr, fun r h => .inl h⟩
    obtain ⟨B, hB, hr⟩ := ho.rel c x hx
    exact ⟨B, hB, hr.turn (hkeep _ hr.lt)⟩

/-! ### a memory of plain rows, looked at by the kernel -/
/-- nothing here may be written, and each block is a row of plain values -/
noncomputable def rwB (n c : Nat) : Option Bl → Bool
  | none => true
  | some ⟨_, true, .cells cs _ _ _ _⟩ => sel (Nat.blt c n) (bndV n cs) false
  | some _ => false
theorem rwB_ok {n c : Nat} {x : Bl} (h : rwB n c (some x) = true) : x.ro = true ∧ c < n ∧ ∃ cs el fz p z, x.c = .cells cs el fz p z ∧ bndV n cs = true := by
  unfold rwB at h
  split at h
  · rename_i e; cases e
  · rename_i ts cs el fz p z e
    cases e
    obtain ⟨h4, h5⟩ := sel_and h
    exact ⟨rfl, Nat.le_of_ble_eq_true h4, cs, el, fz, p, z, rfl, h5⟩
  · cases h
noncomputable def roT (n c s : Nat) (t : T Bl) : Bool := T.rec (motive := fun _ => Nat → Nat → Bool) (fun _ _ => true)
  (fun l v r il ir c s => sel (rwB n c v) (sel (il (c + s) (2 * s)) (ir (c + 2 * s) (2 * s)) false) false) t c s
theorem roT_n {n c s : Nat} {l r : T Bl} {v : Option Bl} : roT n c s (.n l v r) = sel (rwB n c v) (sel (roT n (c + s) (2 * s) l) (roT n (c + 2 * s) (2 * s) r) false) false := rfl
theorem roT_all {n : Nat} {t : T Bl} : ∀ {c s : Nat}, roT n c s t = true → T.AllP (fun b x => x.ro = true ∧ b < n ∧ ∃ cs el fz p z, x.c = .cells cs el fz p z ∧ bndV n cs = true) c s t := by
  induction t with
  | e => intro c s _; trivial
  | n l v r ihl ihr =>
    intro c s h
    rw [roT_n] at h
    obtain ⟨h1, h⟩ := sel_and h
    obtain ⟨h2, h3⟩ := sel_and h
    exact ⟨fun x hx => by subst hx; exact rwB_ok h1, ihl h2, ihr h3⟩
theorem roH {h : H} (k : roT h.next 0 1 h.t = true) : AllRo h ∧ ∀ b x, h.get b = some x → b < h.next ∧ ∃ cs el fz p z, x.c = .cells cs el fz p z ∧ bndV h.next cs = true :=
  ⟨fun b x hx => ((roT_all k).root hx).1, fun b x hx => ((roT_all k).root hx).2⟩
/-- are the first memory's blocks in the second as they were? -/
noncomputable def subB (h : H) (c : Nat) : Option Bl → Bool
  | none => true
  | some ⟨0, true, .cells cs el fz false true⟩ => sel (Nat.beq fz 4096) (hasB h c cs el true) false
  | some _ => false
theorem subB_ok {h : H} {c : Nat} {x : Bl} (k : subB h c (some x) = true) : h.get c = some x := by
  unfold subB at k
  split at k
  · rename_i e; cases e
  · rename_i cs el fz e
    cases e
    obtain ⟨k0, k⟩ := sel_and k
    rw [Nat.eq_of_beq_eq_true k0]
    exact (hasB_inv k).1
  · cases k
noncomputable def subT (h : H) (c s : Nat) (t : T Bl) : Bool := T.rec (motive := fun _ => Nat → Nat → Bool) (fun _ _ => true)
  (fun l v r il ir c s => sel (subB h c v) (sel (il (c + s) (2 * s)) (ir (c + 2 * s) (2 * s)) false) false) t c s
theorem subT_n {h : H} {c s : Nat} {l r : T Bl} {v : Option Bl} : subT h c s (.n l v r) = sel (subB h c v) (sel (subT h (c + s) (2 * s) l) (subT h (c + 2 * s) (2 * s) r) false) false := rfl
theorem subT_all {h : H} {t : T Bl} : ∀ {c s : Nat}, subT h c s t = true → T.AllP (fun b x => h.get b = some x) c s t := by
  induction t with
  | e => intro c s _; trivial
  | n l v r ihl ihr =>
    intro c s k
    rw [subT_n] at k
    obtain ⟨h1, k⟩ := sel_and k
    obtain ⟨h2, h3⟩ := sel_and k
    exact ⟨fun x hx => by subst hx; exact subB_ok h1, ihl h2, ihr h3⟩
theorem subH {h0 h : H} (k : subT h 0 1 h0.t = true) : ∀ b x, h0.get b = some x → h.get b = some x := fun b x hx => (subT_all k).root hx
/-- a function that answers one flag over one memory, as a contract -/
theorem px_bool {X : Cx} {fc : List Fact} {f : Nat} {b : Bool} {h0 h1 : H} (hc : CallD X f .nil h0 (.bool b) h1) (hro : roT h0.next 0 1 h0.t = true) (hng : X.ng ≤ h0.next) (hfc : X.fc = []) {h : H} (hk : subT h 0 1 h0.t = true) :
    CallD (X.withF fc) f .nil h (.bool b) h :=
  hc.quietW (roH hro).1 (roH hro).2 hng hfc (by rfl) (fun hV => by first | exact hV | (cases hV; constructor)) (subH hk)

end Go.Ev
end

section
set_option linter.unusedVariables false
set_option linter.unusedSimpArgs false
namespace Go.Ev

variable {X : Cx} {σ : Sig} {n : Nat} {ro : Option Nat} {fr : Fr} {ds : List Df} {h : H} {a : Act} {w : World}

/-! ### values that are one value of the model's -/
def Fixed (v : AV) (x₀ : Value) : Prop := ∀ (σ : Sig) (x : Value), V σ v x ↔ x = x₀
def FixedL (v : AV) (l : List Value) : Prop := ∀ (σ : Sig) (x : List Value), VL σ v x ↔ x = l
noncomputable def intA (v : AV) : Bool := match v with | .int _ _ => true | _ => false
noncomputable def rowA (v : AV) : Bool := match v with | .cons x .nil => intA x | _ => false
noncomputable def fixA (v : AV) : Bool := match v with | .ifc _ (.agg l) => rowA l | _ => false
theorem intA_ok {v : AV} (h : intA v = true) : ∃ x₀, Fixed v x₀ := by
  unfold intA at h
  split at h
  · exact ⟨_, fun σ x => Iff.rfl⟩
  · cases h
theorem rowA_ok {v : AV} (h : rowA v = true) : ∃ l, FixedL v l := by
  unfold rowA at h
  split at h
  · rename_i x
    obtain ⟨y, hy⟩ := intA_ok h
    refine ⟨[y], fun σ l => ⟨fun hl => ?_, fun hl => ?_⟩⟩
    · obtain ⟨u, us, rfl, h1, h2⟩ := hl.cons_inv
      rw [(hy σ u).1 h1, h2.nil_inv]
    · subst hl; exact VL.cons ((hy σ y).2 rfl) VL.nil
  · cases h
theorem fixA_ok {v : AV} (h : fixA v = true) : ∃ t u, Fixed v (.iface t u) := by
  unfold fixA at h
  split at h
  · rename_i t l
    obtain ⟨y, hy⟩ := rowA_ok h
    refine ⟨t, .agg y.toArray, fun σ x => ⟨fun hx => ?_, fun hx => ?_⟩⟩
    · obtain ⟨u, rfl, cs, rfl, hcs⟩ := (hx : ∃ u, x = .iface t u ∧ ∃ cs, u = .agg cs ∧ (R σ l).2 cs.toList)
      rw [← (hy σ _).1 hcs]
    · subst hx
      exact ⟨_, rfl, _, rfl, (hy σ _).2 rfl⟩
  · cases h

/-! ### a call that ends in a panic -/
def pnE (x₀ : Value) : Exit := .panic [{ v := x₀, recovered := false }]
def panQ (X : Cx) (σ : Sig) (G : Hp) (w : World) (h : H) (x₀ : Value) (h' : H) : Ending → World → Prop := fun e w' => match e with
  | .panicked c => c = [{ v := x₀, recovered := false }] ∧ ∃ τ, Post X σ G w h.next h'.next τ (app (diff h.get h'.get) G) w'
  | _ => False
def PanD (X : Cx) (f : Nat) (l : AV) (h : H) (x₀ : Value) (h' : H) : Prop :=
  ∀ (σ : Sig) (G : Hp) (w : World) (vs : Array Value), VL σ l vs.toList → Ok X σ G w → Ext G h.get → (∀ b, h.next ≤ b → b < h'.next → σ.bk b = none) →
    (callFunc f vs).run X.P w = .ok (.enter f vs) w ∧ CallsIn Fence.wide 0 X.P f vs w (panQ X σ G w h x₀ h')
/-- goes on at a panic's value -/
abbrev Kp := AV → Fr → List Df → H → Bool
abbrev PCl := Nat → AV → H → Kt → Bool
def PClOK (X : Cx) (pc : PCl) : Prop := ∀ f l h k, pc f l h k = true → ∃ v x₀ h', Fixed v x₀ ∧ Mv h h' ∧ k v h' = true ∧ PanD X f l h x₀ h'

/-- an operation that ends in a panic -/
def OpP (X : Cx) (n : Nat) (ro : Option Nat) (ops : Array Oper) (j : Nat) (fr : Fr) (h : H) (x₀ : Value) (h' : H) : Prop :=
  ∀ (σ : Sig) (G : Hp) (a : Act) (w : World) (rm : Option Nat) (K : Act → World → Prop) (Q : Exit → Act → World → Prop), Ro σ ro rm → Fit X σ n fr a (fun _ => True) → a.tmps.size = n → Ok X σ G w → Ext G h.get → (∀ b, h.next ≤ b → b < h'.next → σ.bk b = none) →
    (∀ τ w', Post X σ G w h.next h'.next τ (app (diff h.get h'.get) G) w' → Q (pnE x₀) a w') → wpOpIn (Fw rm) 0 X.P ops Q j K a w

theorem cop_pnc {o : Oper} {mx : MO} {E : Env} {ng : Nat} (hc : cop E ng n o = some (.pnc mx)) : ∃ x, o.op = .panic x ∧ mo ng n x = some mx := by
  cases ho : o.op
  case panic x =>
    simp only [cop, ho, Option.bind_eq_bind, Option.bind_eq_some_iff, Option.pure_def, Option.some.injEq, MOp.pnc.injEq] at hc
    obtain ⟨y, h1, rfl⟩ := hc
    exact ⟨x, rfl, h1⟩
  all_goals exfalso
  all_goals simp only [cop, ho, Option.bind_eq_bind, Option.pure_def] at hc
  all_goals try (simp only [cbin, cconv, ccall, cbuiltin, Option.bind_eq_bind, Option.pure_def] at hc)
  all_goals repeat' (first | contradiction | (cases hc; done) | (obtain ⟨_, _, hc⟩ := hc) | (simp only [Option.bind_eq_some_iff, Option.some.injEq, reduceCtorEq, and_false, exists_false, false_and, exists_const] at hc; done) | (split at hc) | (unfold ceq at hc) | (unfold cbuiltin at hc) | (simp only [Option.bind_eq_some_iff, Option.bind_eq_bind, Option.pure_def, Option.map_eq_some_iff] at hc))
theorem cop_call {o : Oper} {m : MOp} (hc : cop X.E X.ng n o = some m) (hn : m.isCall = true) (hop : isCallOp o.op = true) :
    (∃ c f ms, m = .call f ms ∧ o.op = .call c ∧ c.callee = .value (.func f) ∧ mos X.ng n c.args.toList = some ms) ∨
    (∃ c x mx ms, m = .callv mx ms ∧ o.op = .call c ∧ c.callee = .value x ∧ mo X.ng n x = some mx ∧ mos X.ng n c.args.toList = some ms) ∨
    (∃ x t ms, m = .inv x t ms) := by
    cases ho : o.op with
  | call c =>
    have hcc : ccall X.E X.ng n c = some m := by simpa only [cop, ho] using hc
    unfold ccall at hcc
    split at hcc
    · exfalso
      unfold cbuiltin at hcc
      split at hcc <;> (try simp only [Option.bind_eq_bind, Option.bind_eq_some_iff, Option.pure_def, Option.some.injEq] at hcc)
      · obtain ⟨_, _, _, _, hcc⟩ := hcc
        split at hcc <;> (try simp only [Option.bind_eq_some_iff, Option.some.injEq] at hcc)
        · obtain ⟨_, _, rfl⟩ := hcc; cases hn
        · obtain ⟨_, _, rfl⟩ := hcc; cases hn
        · obtain ⟨_, _, rfl⟩ := hcc; cases hn
        · cases hcc
      · obtain ⟨_, _, _, _, hcc⟩ := hcc
        split at hcc
        · simp only [Option.bind_eq_some_iff, Option.some.injEq] at hcc
          obtain ⟨_, _, rfl⟩ := hcc; cases hn
        · cases hcc
      · obtain ⟨_, _, _, _, hcc⟩ := hcc
        split at hcc
        · simp only [Option.bind_eq_some_iff] at hcc
          obtain ⟨_, _, _, _, _, _, _, _, hcc⟩ := hcc
          split at hcc
          · split at hcc
            · simp only [Option.bind_eq_some_iff, Option.some.injEq] at hcc
              obtain ⟨_, _, _, _, rfl⟩ := hcc; cases hn
            · cases hcc
          · split at hcc
            · simp only [Option.bind_eq_some_iff, Option.some.injEq] at hcc
              obtain ⟨_, _, _, _, rfl⟩ := hcc; cases hn
            · cases hcc
          · cases hcc
        · cases hcc
      · obtain ⟨_, _, _, _, rfl⟩ := hcc; cases hn
      · obtain ⟨_, _, _, _, rfl⟩ := hcc; cases hn
      · subst hcc; cases hn
      · obtain ⟨_, _, _, _, hcc⟩ := hcc
        split at hcc
        · simp only [Option.bind_eq_some_iff, Option.some.injEq] at hcc
          obtain ⟨_, _, _, _, _, _, rfl⟩ := hcc; cases hn
        · cases hcc
      · obtain ⟨_, _, rfl⟩ := hcc; cases hn
      · obtain ⟨_, _, _, _, hcc⟩ := hcc
        split at hcc
        · simp only [Option.bind_eq_some_iff] at hcc
          obtain ⟨_, _, hcc⟩ := hcc
          split at hcc
          · simp only [Option.bind_eq_some_iff, Option.some.injEq] at hcc
            obtain ⟨_, _, _, _, rfl⟩ := hcc; cases hn
          · cases hcc
        · cases hcc
      · cases hcc
    · rename_i f hf
      split at hcc
      · exfalso
        split at hcc
        · simp only [Option.bind_eq_bind, Option.bind_eq_some_iff, Option.pure_def] at hcc
          obtain ⟨d, hd, hcc⟩ := hcc
          split at hcc
          · simp only [Option.bind_eq_some_iff, Option.some.injEq] at hcc
            obtain ⟨mx, hx, rfl⟩ := hcc; cases hn
          · cases hcc
        · cases hcc
      · simp only [Option.bind_eq_bind, Option.bind_eq_some_iff, Option.pure_def] at hcc
        obtain ⟨q, hq, l, hl, hcc⟩ := hcc
        split at hcc
        · cases hcc; exact .inl ⟨c, f, l, rfl, rfl, hf, hl⟩
        · cases hcc; cases hn
    · rename_i x _ hx
      simp only [Option.bind_eq_bind, Option.bind_eq_some_iff, Option.pure_def, Option.some.injEq] at hcc
      obtain ⟨mx, h1, l, hl, rfl⟩ := hcc
      exact .inr (.inl ⟨c, x, mx, l, rfl, rfl, hx, h1, hl⟩)
    · rename_i r name hr
      simp only [Option.bind_eq_bind, Option.bind_eq_some_iff, Option.pure_def, Option.some.injEq] at hcc
      obtain ⟨mx, h1, l, hl, rfl⟩ := hcc
      exact .inr (.inr ⟨_, _, _, rfl⟩)
  | _ => rw [ho] at hop; cases hop



theorem upon_enterP {o : Oper} {f : FuncId} {vs : Array Value} {h' : H} {x₀ : Value} {G : Hp} {rm : Option Nat} {K : Act → World → Prop} {Q : Exit → Act → World → Prop} (hc : CallsIn Fence.wide 0 X.P f vs w (panQ X σ G w h x₀ h'))
    (hK : ∀ τ w', Post X σ G w h.next h'.next τ (app (diff h.get h'.get) G) w' → Q (pnE x₀) a w') : o.uponIn (Fw rm) 0 X.P a K Q (.ok (.enter f vs) w) := by
  rw [Oper.uponIn_enter]
  refine ⟨fun h => (by cases h), ?_⟩
  have : CallsIn (Fw rm) (0 - 1) X.P f vs w (panQ X σ G w h x₀ h') := hc
  refine CallsIn.mono this fun e w' he => ?_
  cases e with
  | returned x => exact he.elim
  | panicked c => obtain ⟨rfl, τ, h2⟩ := he; exact hK τ w' h2
  | outgrown => exact he.elim

noncomputable def pvK (pc : PCl) (v l : AV) (h : H) (k : Kt) : Bool := match v with
  | .fn f p q => rappK l q fun l => rappK p l fun l => pc f l h k
  | _ => false
noncomputable def pOp (pc : PCl) (op : MOp) (fr : Fr) (h : H) (k : Kt) : Bool := match op with
  | .pnc x => x.getK fr fun v => sel (fixA v) (k v h) false
  | .call f args => rowK fr args fun l => pc f l h k
  | .callv x args => x.getK fr fun v => rowK fr args fun l => pvK pc v l h k
  | _ => false
noncomputable def pOpK (pc : PCl) (m : MOper) (fr : Fr) (h : H) (k : Kt) : Bool := MOper.rec (motive := fun _ => Bool) (fun _ op g => noG g (pOp pc op fr h k)) m

theorem pOpK_inv {pc : PCl} (hpc : PClOK X pc) {ops : Array Oper} {j : Nat} {o : Oper} {m : MOper} {k : Kt} (ho : ops[j]? = some o) (hc : coper X.E X.ng n ops o = some m) (hk : pOpK pc m fr h k = true) :
    ∃ v x₀ h', Fixed v x₀ ∧ Mv h h' ∧ k v h' = true ∧ OpP X n ro ops j fr h x₀ h' := by
  unfold coper at hc
  split at hc
  case h_2 => cases hc
  rename_i d op g h1 h2 h3
  split at hc
  case isFalse => cases hc
  rename_i hcall
  cases hc
  have hcall : op.isCall = true → isCallOp o.op = true := fun e => by
    simp only [MOp.fits, Bool.and_eq_true] at hcall
    simpa [e] using hcall.1
  cases g with
  | some s b => cases hk
  | none =>
    have hg : o.guard = none := by
      unfold cguard at h3
      split at h3
      · assumption
      · split at h3
        · simp only [Option.map_eq_some_iff] at h3
          obtain ⟨_, _, h3⟩ := h3; cases h3
        · cases h3
    have hw : ∀ y, Region.wanted o y = true := fun y => by simp [Region.wanted, hg]
    have hk : pOp pc op fr h k = true := hk
    unfold pOp at hk
    split at hk
    · rename_i mx
      rw [MO.getK_eq] at hk
      obtain ⟨hf, hk⟩ := sel_and hk
      obtain ⟨it, iu, hx⟩ := fixA_ok hf
      obtain ⟨x, hop, hm⟩ := cop_pnc h2
      refine ⟨_, .iface it iu, h, hx, Mv.refl h, hk, fun σ G a w rm K Q hro hfit hsz hok hext hfr hQ => ?_⟩
      unfold wpOpIn
      simp only [ho, hw, if_true]
      refine ⟨fun _ _ => trivial, ?_⟩
      have hv := mo_V hm hfit (fun _ _ => trivial)
      have e := (hx σ _).1 hv
      rw [Oper.semAt_eq (Fw rm).round a.eval o (fun c' h => by rw [hop] at h; cases h)]
      have hrun : (execOp a.eval o).run X.P w = .halt (.panic (.iface it iu)) w := by
        simp [execOp, hop, e, Instr.panic, goPanic, Sem.run]
      rw [hrun, Oper.uponIn_panic]
      exact hQ σ w (by rw [app_self]; exact Post.refl hok _)
    · rename_i f args
      rw [rowK_eq] at hk
      obtain ⟨v, x₀, h', hfx, mv, hk, hD⟩ := hpc _ _ _ _ hk
      refine ⟨v, x₀, h', hfx, mv, hk, fun σ G a w rm K Q hro hfit hsz hok hext hfr hQ => ?_⟩
      rcases cop_call h2 rfl (hcall rfl) with ⟨c, f', ms, e, hop, hcl, hms⟩ | ⟨c, x, mx, ms, e, _⟩ | ⟨x, t, ms, e⟩
      · cases e
        unfold wpOpIn
        simp only [ho, hw, if_true]
        refine ⟨fun _ _ => trivial, ?_⟩
        have hv := mos_VL' (xs := c.args) hms hfit (fun _ _ _ _ => trivial)
        obtain ⟨q1, q2⟩ := hD σ G w _ hv hok hext hfr
        rw [call_sem hop, run_call_fn hcl, q1]
        exact upon_enterP q2 hQ
      · cases e
      · cases e
    · rename_i mx args _ _
      rw [MO.getK_eq, rowK_eq] at hk
      unfold pvK at hk
      split at hk
      case h_2 => cases hk
      rename_i f p q hfn
      have hk := rappK_inv (m := q) (a := rowV fr args) (k := fun l => rappK p l fun l => pc f l h k) hk
      have hk := rappK_inv (m := (rowV fr args).app q) (a := p) (k := fun l => pc f l h k) hk
      obtain ⟨v, x₀, h', hfx, mv, hk, hD⟩ := hpc _ _ _ _ hk
      refine ⟨v, x₀, h', hfx, mv, hk, fun σ G a w rm K Q hro hfit hsz hok hext hfr hQ => ?_⟩
      rcases cop_call h2 rfl (hcall rfl) with ⟨c, f', ms, e, _⟩ | ⟨c, x, mx, ms, e, hop, hcl, hx, hms⟩ | ⟨x, t, ms, e⟩
      · cases e
      · cases e
        unfold wpOpIn
        simp only [ho, hw, if_true]
        refine ⟨fun _ _ => trivial, ?_⟩
        have hv := mos_VL' (xs := c.args) hms hfit (fun _ _ _ _ => trivial)
        have hu := mo_V hx hfit (fun _ _ => trivial)
        rw [hfn] at hu
        obtain ⟨ps, qs, hu, hp, hq⟩ := (hu : ∃ ps qs, _)
        have hrow : VL σ (p.app ((rowV fr args).app q)) ((ps ++ c.args.map a.eval) ++ qs).toList := by
          have := VL.app (VL.app hq hv) hp
          simpa [List.append_assoc] using this
        obtain ⟨q1, q2⟩ := hD σ G w _ hrow hok hext hfr
        have e : (do let d ← resolve a.eval c o.type; invoke d.target d.args : Sem Next).run X.P w = (callFunc f ((ps ++ c.args.map a.eval) ++ qs)).run X.P w := by
          simp only [resolve, hcl, hu, Deferred.ofValue, Sem.run_bind, Sem.run_pure, Result.andThen_ok, invoke]
        rw [call_sem hop, e, q1]
        exact upon_enterP q2 hQ
      · cases e
    · cases hk

theorem OpsDo.pan {ops : Array Oper} {j : Nat} {js : List Nat} {x₀ : Value} {h' : H} (hj : OpP X n ro ops j fr h x₀ h') : OpsDo X n ro ops (j :: js) fr ds h ⟨pnE x₀, fr, ds, h'⟩ := by
  intro σ G a w rm hro hf hdf hok hext hfr
  rw [wpOpsIn_cons]
  refine hj σ G a w rm _ _ hro (hf.fit hok.sane) hf.size hok hext hfr fun τ w' hp => ?_
  exact ⟨rfl, τ, hf.mono hp.le, hdf.mono hp.le, hp⟩

/-! ### a region that ends in a panic -/
noncomputable def pregK (fc : List Fact) (cl : Cl) (pc : PCl) (l : List MOper) : Fr → H → (AV → Fr → H → Bool) → Bool :=
  List.rec (motive := fun _ => Fr → H → (AV → Fr → H → Bool) → Bool) (fun _ _ _ => false)
    (fun m _ ih fr h K => sel (evOp fc cl m fr h fun v h => putK m.dst fr v fun fr => ih fr h K) true (pOpK pc m fr h fun v h => K v fr h)) l
theorem pregK_inv {cl : Cl} (hcl : ClOK X cl) {pc : PCl} (hpc : PClOK X pc) {ops : Array Oper} {K : AV → Fr → H → Bool} : ∀ {l : List Oper} {ms : List MOper} {i : Nat} {fr : Fr} {h : H}, ops.toList.drop i = l → copers X.E X.ng n ops l = some ms → pregK X.fc cl pc ms fr h K = true →
    ∃ v x₀ fr' h', Fixed v x₀ ∧ K v fr' h' = true ∧ Mv h h' ∧ ∀ ds, OpsDo X n ro ops (List.range' i l.length) fr ds h ⟨pnE x₀, fr', ds, h'⟩
  | [], ms, i, fr, h, hl, hc, hk => by
    cases hc
    cases hk
  | o :: l, ms, i, fr, h, hl, hc, hk => by
    unfold copers at hc
    split at hc
    · rename_i m r h1 h2
      cases hc
      have ho : ops[i]? = some o := by
        have : (ops.toList.drop i)[0]? = some o := by rw [hl]; rfl
        rw [List.getElem?_drop] at this
        simpa using this
      have hk : sel (evOp X.fc cl m fr h fun v h => putK m.dst fr v fun fr => pregK X.fc cl pc r fr h K) true (pOpK pc m fr h fun v h => K v fr h) = true := hk
      rcases sel_eq hk with ⟨hk, _⟩ | ⟨_, hk⟩
      · obtain ⟨hd, s, h', t, hk, hj⟩ := evOp_inv (ro := ro) hcl ho h1 hk
        rw [putK_eq] at hk
        obtain ⟨v, x₀, fr2, h2, hfx, hk, mv, hdo⟩ := pregK_inv hcl hpc (i := i + 1) (by rw [← List.drop_drop, hl]; rfl) h2 hk
        refine ⟨v, x₀, fr2, h2, hfx, hk, t.mv.trans mv, fun ds => ?_⟩
        rw [List.length_cons, List.range'_succ]
        exact OpsDo.cons hd t hj mv (hdo ds)
      · obtain ⟨v, x₀, h', hfx, mv, hk, hj⟩ := pOpK_inv (ro := ro) hpc ho h1 hk
        refine ⟨v, x₀, fr, h', hfx, hk, mv, fun ds => ?_⟩
        rw [List.length_cons, List.range'_succ]
        exact OpsDo.pan hj
    · cases hc
end Go.Ev
end

section
set_option linter.unusedVariables false
set_option linter.unusedSimpArgs false
namespace Go.Ev

variable {X : Cx} {σ : Sig} {n : Nat} {ro : Option Nat} {fr : Fr} {ds : List Df} {h : H} {a : Act} {w : World}

/-! ### code that ends in a panic -/
abbrev PSlf := MC → Option Nat → Fr → List Df → H → Kp → Bool
def PSelfOK (X : Cx) (pself : PSlf) : Prop := ∀ n g m is, Rep X n g m is → ∀ ro fr ds h K, pself m ro fr ds h K = true →
  ∃ v x₀ o, Fixed v x₀ ∧ o.e = pnE x₀ ∧ K v o.fr o.ds o.h = true ∧ Mv h o.h ∧ CDoes X n ro is fr ds h o
noncomputable def normJ (kb : Fr → List Df → H → Bool) : Kj := fun j fr ds h => Jump.rec (motive := fun _ => Bool) (kb fr ds h) false (fun _ => false) (fun _ => false) j
theorem normJ_inv {kb : Fr → List Df → H → Bool} {j : Jump} (hk : normJ kb j fr ds h = true) : Jump.exit' j = .normal ∧ kb fr ds h = true := by
  cases j with
  | none => exact ⟨rfl, hk⟩
  | _ => cases hk
abbrev PEvt := Option Nat → Fr → List Df → H → Kp → Bool
noncomputable def pvBad : PEvt := fun _ _ _ _ _ => false
noncomputable def pvReg (fc : List Fact) (cl : Cl) (pc : PCl) (ops : List MOper) : PEvt := fun _ fr ds h K => pregK fc cl pc ops fr h fun v fr h => K v fr ds h
noncomputable def pvSeq (fc : List Fact) (cl : Cl) (self : Slf) (a _ : MC) (iha ihb : PEvt) : PEvt := fun ro fr ds h K => sel (evC fc cl self a ro fr ds h (normJ fun fr ds h => ihb ro fr ds h K)) true (iha ro fr ds h K)
noncomputable def pvCond (c : MO) (_ _ : MC) (iha ihb : PEvt) : PEvt := fun ro fr ds h K => c.getK fr fun v => ifB v (iha ro fr ds h K) (ihb ro fr ds h K)
noncomputable def pvBlock (_ : Nat) (_ : MC) (ih : PEvt) : PEvt := ih
noncomputable def pvLoop (fc : List Fact) (cl : Cl) (self : Slf) (pself : PSlf) (c : MC) (ih : PEvt) : PEvt := fun ro fr ds h K => sel (evC fc cl self c ro fr ds h (normJ fun fr ds h => pself (.loop c) ro fr ds h K)) true (ih ro fr ds h K)
noncomputable def pvC (fc : List Fact) (cl : Cl) (pc : PCl) (self : Slf) (pself : PSlf) (m : MC) : PEvt :=
  MC.rec (motive := fun _ => PEvt) pvBad (pvReg fc cl pc) (fun _ => pvBad) (fun _ => pvBad) (pvSeq fc cl self) pvCond pvBlock (pvLoop fc cl self pself) (fun _ _ _ _ _ _ _ _ _ _ => pvBad) (fun _ _ => pvBad) (fun _ => pvBad) (fun _ _ => pvBad) (fun _ _ _ _ => pvBad) (fun _ => pvBad) (fun _ => pvBad) pvBad pvBad m

theorem pvC_ok {cl : Cl} {self : Slf} {pc : PCl} {pself : PSlf} (hcl : ClOK X cl) (hself : SelfOK X self) (hpc : PClOK X pc) (hpself : PSelfOK X pself) : PSelfOK X (pvC X.fc cl pc self pself) := by
  have hev := evC_ok hcl hself
  have stop : ∀ {x₀ : Value} {o : Out}, o.e = pnE x₀ → o.e ≠ .normal := fun e => by rw [e]; simp [pnE]
  have code : ∀ (c : Code) (n g : Nat) (m : MC), compC X.E X.ng n g c = some m → rfAll ((lpOf X.P g).map (·.2)) c → (∀ q, lpOf X.P g = some q → q.1 = n) → ∀ ro fr ds h K, pvC X.fc cl pc self pself m ro fr ds h K = true →
      ∃ v x₀ o, Fixed v x₀ ∧ o.e = pnE x₀ ∧ K v o.fr o.ds o.h = true ∧ Mv h o.h ∧ CDoes X n ro [.code c] fr ds h o := by
    intro c
    induction c with
    | skip => intro n g m hc hrf hlp ro fr ds h K hk; cases hc; cases hk
    | region id ops draw =>
      intro n g m hc hrf hlp ro fr ds h K hk
      cases draw with
      | true =>
        simp only [compC] at hc
        split at hc
        · cases hc; cases hk
        · simp only [if_true] at hc
          split at hc
          · split at hc
            · cases hc; cases hk
            · cases hc; cases hk
          · cases hc; cases hk
      | false =>
        simp only [compC] at hc
        split at hc
        · cases hc; cases hk
        · rename_i ms hms
          simp only [Bool.false_eq_true, if_false] at hc
          split at hc
          · cases hc; cases hk
          · cases hc
            obtain ⟨v, x₀, fr', h', hfx, hk, mv, hdo⟩ := pregK_inv hcl hpc (ro := ro) (l := ops.toList) (i := 0) rfl hms hk
            refine ⟨v, x₀, ⟨pnE x₀, fr', ds, h'⟩, hfx, rfl, hk, mv, CDoes.region ?_⟩
            rw [List.range_eq_range', ← Array.length_toList]; exact hdo ds
    | seq a b iha ihb =>
      intro n g m hc hrf hlp ro fr ds h K hk
      simp only [compC] at hc
      split at hc
      · rename_i x y hx hy
        cases hc
        have hk : sel (evC X.fc cl self x ro fr ds h (normJ fun fr ds h => pvC X.fc cl pc self pself y ro fr ds h K)) true (pvC X.fc cl pc self pself x ro fr ds h K) = true := hk
        rcases sel_eq hk with ⟨hk, _⟩ | ⟨_, hk⟩
        · obtain ⟨j, o, e, hk, mv, hdo⟩ := hev n g x _ (.code hx hrf.1 hlp) ro _ _ _ _ hk
          obtain ⟨hj, hk⟩ := normJ_inv hk
          obtain ⟨v, x₀, o2, hfx, e2, hk, mv2, hdo2⟩ := ihb n g y hy hrf.2 hlp ro _ _ _ _ hk
          exact ⟨v, x₀, o2, hfx, e2, hk, mv.trans mv2, .seq mv mv2 (by rw [e, hj]) hdo hdo2⟩
        · obtain ⟨v, x₀, o, hfx, e, hk, mv, hdo⟩ := iha n g x hx hrf.1 hlp ro _ _ _ _ hk
          exact ⟨v, x₀, o, hfx, e, hk, mv, .seq_stop (stop e) hdo⟩
      · cases hc
    | cond c a b iha ihb =>
      intro n g m hc hrf hlp ro fr ds h K hk
      simp only [compC] at hc
      split at hc
      · rename_i mc x y hm hx hy
        cases hc
        have hk : mc.getK fr (fun v => ifB v (pvC X.fc cl pc self pself x ro fr ds h K) (pvC X.fc cl pc self pself y ro fr ds h K)) = true := hk
        rw [MO.getK_eq] at hk
        obtain ⟨q, hv, hk⟩ := ifB_inv hk
        cases q with
        | true =>
          obtain ⟨v, x₀, o, hfx, e, hk, mv, hdo⟩ := iha n g x hx hrf.1 hlp ro fr ds h _ hk
          exact ⟨v, x₀, o, hfx, e, hk, mv, .cond hm true hv hdo⟩
        | false =>
          obtain ⟨v, x₀, o, hfx, e, hk, mv, hdo⟩ := ihb n g y hy hrf.2 hlp ro fr ds h _ hk
          exact ⟨v, x₀, o, hfx, e, hk, mv, .cond hm false hv hdo⟩
      · cases hc
    | block id c ih =>
      intro n g m hc hrf hlp ro fr ds h K hk
      simp only [compC] at hc
      split at hc
      · rename_i x hx
        cases hc
        obtain ⟨v, x₀, o, hfx, e, hk, mv, hdo⟩ := ih n g x hx hrf hlp ro fr ds h _ hk
        exact ⟨v, x₀, o, hfx, e, hk, mv, .block (by rw [e]; simp [pnE]) hdo⟩
      · cases hc
    | loop c ih =>
      intro n g m hc hrf hlp ro fr ds h K hk
      simp only [compC] at hc
      split at hc
      · rename_i x hx
        split at hc
        · rename_i y hy
          cases hc
          obtain ⟨it, t1, t2, t, off, l, id, id2, B, mb, _, _, _, _, _, _, _, rfl⟩ := hvMC_inv hx hy
          cases hk
        cases hc
        have hk : sel (evC X.fc cl self x ro fr ds h (normJ fun fr ds h => pself (.loop x) ro fr ds h K)) true (pvC X.fc cl pc self pself x ro fr ds h K) = true := hk
        rcases sel_eq hk with ⟨hk, _⟩ | ⟨_, hk⟩
        · obtain ⟨j, o, e, hk, mv, hdo⟩ := hev n g x _ (.code hx hrf hlp) ro _ _ _ _ hk
          obtain ⟨hj, hk⟩ := normJ_inv hk
          obtain ⟨v, x₀, o2, hfx, e2, hk, mv2, hdo2⟩ := hpself n g (.loop x) _ (.loop hx hrf hlp) ro _ _ _ _ hk
          exact ⟨v, x₀, o2, hfx, e2, hk, mv.trans mv2, .loop (.round mv mv2 (by rw [e, hj]) hdo hdo2)⟩
        · obtain ⟨v, x₀, o, hfx, e, hk, mv, hdo⟩ := ih n g x hx hrf hlp ro _ _ _ _ hk
          exact ⟨v, x₀, o, hfx, e, hk, mv, .loop (.round_stop (stop e) hdo)⟩
      · cases hc
    | rangeFunc f ps a b _ _ =>
      intro n g m hc hrf hlp ro fr ds h K hk
      simp only [compC] at hc
      split at hc
      · cases hc; cases hk
      · cases hc
    | exit id => intro n g m hc hrf hlp ro fr ds h K hk; cases hc; cases hk
    | scope c ih =>
      intro n g m hc hrf hlp ro fr ds h K hk
      simp only [compC] at hc
      split at hc
      · cases hc; cases hk
      · cases hc
    | label l => intro n g m hc hrf hlp ro fr ds h K hk; cases hc; cases hk
    | goto l => intro n g m hc hrf hlp ro fr ds h K hk; cases hc; cases hk
    | ret => intro n g m hc hrf hlp ro fr ds h K hk; cases hc; cases hk
    | refuse r => intro n g m hc hrf hlp ro fr ds h K hk; cases hc; cases hk
  intro n g m is hrep ro fr ds h K hk
  cases hrep with
  | code hc hrf hlp => exact code _ n g m hc hrf hlp ro fr ds h K hk
  | @loop c mb hc hrf hlp =>
    have hk : sel (evC X.fc cl self mb ro fr ds h (normJ fun fr ds h => pself (.loop mb) ro fr ds h K)) true (pvC X.fc cl pc self pself mb ro fr ds h K) = true := hk
    rcases sel_eq hk with ⟨hk, _⟩ | ⟨_, hk⟩
    · obtain ⟨j, o, e, hk, mv, hdo⟩ := hev n g mb _ (.code hc hrf hlp) ro _ _ _ _ hk
      obtain ⟨hj, hk⟩ := normJ_inv hk
      obtain ⟨v, x₀, o2, hfx, e2, hk, mv2, hdo2⟩ := hpself n g (.loop mb) _ (.loop hc hrf hlp) ro _ _ _ _ hk
      exact ⟨v, x₀, o2, hfx, e2, hk, mv.trans mv2, .round mv mv2 (by rw [e, hj]) hdo hdo2⟩
    · obtain ⟨v, x₀, o, hfx, e, hk, mv, hdo⟩ := code c n g mb hc hrf hlp ro _ _ _ _ hk
      exact ⟨v, x₀, o, hfx, e, hk, mv, .round_stop (stop e) hdo⟩
  | @scope r c m' mb hr hrr hc hrf hlp => cases hk
end Go.Ev
end

section
set_option linter.unusedVariables false
set_option linter.unusedSimpArgs false
namespace Go.Ev

variable {X : Cx} {σ : Sig} {n : Nat} {ro : Option Nat} {fr : Fr} {ds : List Df} {h : H} {a : Act} {w : World}

/-! ### functions that end in a panic -/
noncomputable def pcallK (tb : T MF) (pself : PSlf) : PCl := fun f l h k => T.getK tb f (fun mf => MF.rec (motive := fun _ => Bool)
    (fun n body res => frameK n l fun fr => pself body none fr [] h fun v fr ds h => dsNil ds (k v h))
    (fun _ _ _ _ => false) mf) false
theorem pcallK_ok {tb : T MF} {pself : PSlf} (htb : TbOK X tb) (hp : PSelfOK X pself) : PClOK X (pcallK tb pself) := by
  intro f l h k hk
  obtain ⟨mf, hget, hk⟩ := getT_inv hk
  obtain ⟨fn, hfn, hname, hc⟩ := htb f mf hget
  cases mf with
  | mk n body res =>
    obtain ⟨c, hb, hn, hn3, rep, hres⟩ := compF_mk hfn hc
    subst hn
    have hk : frameK fn.ntmps l (fun fr => pself body none fr [] h fun v fr ds h => dsNil ds (k v h)) = true := hk
    obtain ⟨fr, hk, hframe⟩ := frameK_inv hn3 hk
    obtain ⟨v, x₀, o, hfx, e, hk, m, hdo⟩ := hp _ _ _ _ rep _ _ _ _ _ hk
    obtain ⟨hds, hk⟩ := dsNil_inv hk
    refine ⟨v, x₀, o.h, hfx, m, hk, fun σ G w vs hv ho he hfr => ⟨by simp [callFunc, hfn, hname, hb], ?_⟩⟩
    refine callsIn_of_wp_marks hfn hb trivial ?_
    have hbody := hdo σ G { tmps := vs ++ Array.replicate (fn.ntmps - vs.size) undef, defers := [] } w none rfl (hframe σ vs hv) rfl ho he hfr
    refine wpIn_mono (RunIn.code.1 hbody) ?_
    rintro e' a' w' ⟨rfl, τ, g1, g2, g3⟩
    rw [hds] at g2
    have g2 : a'.defers = [] := g2
    rw [e]
    show LeavesInM _ _ _ _ _ _ a'.defers (.panicking [{ v := x₀, recovered := false }]) w'
    rw [g2]
    exact ⟨rfl, τ, g3⟩
  | dk n s body res => cases hk

/-! ### a deferred call that recovers -/
def DpD (X : Cx) (f : Nat) (l : AV) (h : H) (x₀ : Value) (h' : H) : Prop :=
  ∀ (σ : Sig) (G : Hp) (w : World) (vs : Array Value), VL σ l vs.toList → Ok X σ G w → Ext G h.get → (∀ b, h.next ≤ b → b < h'.next → σ.bk b = none) →
    (callFunc f vs).run X.P w = .ok (.enter f vs) w ∧ CallsDIn Fence.wide 0 X.P f vs (.panicking [{ v := x₀, recovered := false }]) w fun e u w' => match e with
      | .returned _ => u = .panicking [{ v := x₀, recovered := true }] ∧ ∃ τ, Post X σ G w h.next h'.next τ (app (diff h.get h'.get) G) w'
      | _ => False
noncomputable def dpK (tb : T MF) (self : Slf) (f : Nat) (l : AV) (h : H) (v : AV) (k : H → Bool) : Bool :=
  T.getK tb f (fun mf => MF.rec (motive := fun _ => Bool) (fun _ _ _ => false)
    (fun n s body res => frameK n l fun fr => F3.setK s fr v fun fr => self body none fr [] h fun j fr ds h => onEnd j (dsNil ds (resultsK res fr h fun _ => k h))) mf) false
theorem dpK_inv {tb : T MF} {self : Slf} (htb : TbOK X tb) (hself : SelfOK X self) {f : Nat} {l v : AV} {x₀ : Value} (hfx : Fixed v x₀) {k : H → Bool} (hk : dpK tb self f l h v k = true) : ∃ h', Mv h h' ∧ k h' = true ∧ DpD X f l h x₀ h' := by
  obtain ⟨mf, hget, hk⟩ := getT_inv hk
  obtain ⟨fn, hfn, hname, hc⟩ := htb f mf hget
  cases mf with
  | mk n body res => cases hk
  | dk n s body res =>
    obtain ⟨c, c', t, hb, hrec, ht, rfl, hn, hn3, rep, hres⟩ := compF_dk hfn hc
    subst hn
    have hk : frameK fn.ntmps l (fun fr => F3.setK (slot t) fr v fun fr => self body none fr [] h fun j fr ds h => onEnd j (dsNil ds (resultsK res fr h fun _ => k h))) = true := hk
    obtain ⟨fr, hk, hframe⟩ := frameK_inv hn3 hk
    rw [F3.setK_eq] at hk
    obtain ⟨j, o, e, hk, m, hdo⟩ := hself _ _ _ _ rep _ _ _ _ _ hk
    obtain ⟨hoe, hk⟩ := onEnd_inv hk
    rw [← e] at hoe
    obtain ⟨hds, hk⟩ := dsNil_inv hk
    obtain ⟨r, hk, hr⟩ := resultsK_inv hres hk
    refine ⟨o.h, m, hk, ?_⟩
    intro σ G w vs hv ho he hfr
    refine ⟨by simp [callFunc, hfn, hname, hb], ?_⟩
    obtain ⟨id, op, cl, rfl, h1, h2, h3, h4⟩ := recHead_inv hrec
    refine callsDIn_of_wpSIn hfn hb trivial fun c₀ cs hmode => ?_
    have hrf : RF σ fn.ntmps (F3.put fr (slot t) v) (Act.put { tmps := vs ++ Array.replicate (fn.ntmps - vs.size) undef, defers := [] } op.dst x₀).tmps := by
      have hd : cdst fn.ntmps op.dst = some (.some (slot t)) := by
        rw [h3]; simp [cdst, sl, ht, hn3]
      exact RF.put hd (a := { tmps := vs ++ Array.replicate (fn.ntmps - vs.size) undef, defers := [] }) (hframe σ vs hv) ((hfx σ x₀).2 rfl)
    have hbody := hdo σ G (Act.put { tmps := vs ++ Array.replicate (fn.ntmps - vs.size) undef, defers := [] } op.dst x₀) w none rfl hrf (by rw [put_defers]; rfl) ho he hfr
    refine wpSIn_seq (wpSIn_region ?_)
    have hrec' : recoverD (c₀ :: cs) = some (x₀, { c₀ with mode := .panicking [{ v := x₀, recovered := true }] } :: cs) := by simp [recoverD, hmode]
    have hrun : (execOp (Act.eval { tmps := vs ++ Array.replicate (fn.ntmps - vs.size) undef, defers := [] }) op).run X.P w = .ok .recover w := by
      simp only [execOp, h1]
      obtain ⟨q, hq⟩ := run_call_builtin (a := { tmps := vs ++ Array.replicate (fn.ntmps - vs.size) undef, defers := [] }) (ty := op.type) h4 w X.P
      rw [hq]; rfl
    have hw : ∀ y, Region.wanted op y = true := fun y => by simp [Region.wanted, h2]
    show wpOpsSIn _ _ _ _ _ [0] _ _ _
    simp only [wpOpsSIn, List.getElem?_toArray, List.getElem?_cons_zero, hw, if_true, hrun, hrec']
    refine ⟨fun _ _ => trivial, ?_⟩
    show c'.wpSIn _ _ _ _ _ _ _
    refine wpSIn_of_wpIn rfl (wpIn_mono (RunIn.code.1 hbody) ?_)
    rintro e a' w' ⟨rfl, τ, g1, g2, g3⟩
    rw [hds] at g2
    obtain ⟨u, hu, _⟩ := hr τ _ w' a'.tmps g1 g3.ok (ext_app he)
    rcases hoe with hoe | hoe <;> rw [hoe] <;> exact ⟨g2, .panicking [{ v := x₀, recovered := true }], rfl, u, hu, rfl, τ, g3⟩

/-! ### a function whose only deferred call recovers -/
noncomputable def oneDf (ds : List Df) (k : Nat → AV → AV → Bool) : Bool := match ds with
  | [.fn f cap args] => k f cap args
  | _ => false
noncomputable def tryK (tb : T MF) (self : Slf) (pself : PSlf) (f : Nat) (l : AV) (h : H) (k : Kt) : Bool := T.getK tb f (fun mf => MF.rec (motive := fun _ => Bool)
    (fun n body res => frameK n l fun fr => pself body none fr [] h fun v fr ds h => oneDf ds fun f2 cap args => rappK args cap fun l2 => dpK tb self f2 l2 h v fun h => resultsK res fr h fun r => k r h)
    (fun _ _ _ _ => false) mf) false
theorem tryK_inv {tb : T MF} {self : Slf} {pself : PSlf} (htb : TbOK X tb) (hself : SelfOK X self) (hp : PSelfOK X pself) {f : Nat} {l : AV} {k : Kt} (hk : tryK tb self pself f l h k = true) : ∃ r h', Mv h h' ∧ k r h' = true ∧ CallD X f l h r h' := by
  obtain ⟨mf, hget, hk⟩ := getT_inv hk
  obtain ⟨fn, hfn, hname, hc⟩ := htb f mf hget
  cases mf with
  | dk n s body res => cases hk
  | mk n body res =>
    obtain ⟨c, hb, hn, hn3, rep, hres⟩ := compF_mk hfn hc
    subst hn
    have hk : frameK fn.ntmps l (fun fr => pself body none fr [] h fun v fr ds h => oneDf ds fun f2 cap args => rappK args cap fun l2 => dpK tb self f2 l2 h v fun h => resultsK res fr h fun r => k r h) = true := hk
    obtain ⟨fr, hk, hframe⟩ := frameK_inv hn3 hk
    obtain ⟨v, x₀, o, hfx, e, hk, m, hdo⟩ := hp _ _ _ _ rep _ _ _ _ _ hk
    unfold oneDf at hk
    split at hk
    case h_2 => cases hk
    rename_i f2 cap args hds
    have hk := rappK_inv (m := cap) (a := args) (k := fun l2 => dpK tb self f2 l2 o.h v fun h => resultsK res o.fr h fun r => k r h) hk
    obtain ⟨h1, m1, hk, hD⟩ := dpK_inv htb hself hfx hk
    obtain ⟨r, hk, hr⟩ := resultsK_inv hres hk
    refine ⟨r, h1, m.trans m1, hk, fun σ G w vs hv ho he hfr => ⟨by simp [callFunc, hfn, hname, hb], ?_⟩⟩
    refine callsIn_of_wp_marks hfn hb trivial ?_
    have hbody := hdo σ G { tmps := vs ++ Array.replicate (fn.ntmps - vs.size) undef, defers := [] } w none rfl (hframe σ vs hv) rfl ho he (fun b p q => hfr b p (Nat.lt_of_lt_of_le q m1.next))
    refine wpIn_mono (RunIn.code.1 hbody) ?_
    rintro e' a' w' ⟨rfl, τ, g1, g2, g3⟩
    rw [hds] at g2
    obtain ⟨d, ds', hd1, ⟨cs, htar, hcap, hargs⟩, hd3⟩ := g2
    have hd3 : ds' = [] := hd3
    subst hd3
    rw [e]
    show LeavesInM _ _ _ _ _ _ a'.defers (.panicking [{ v := x₀, recovered := false }]) w'
    rw [hd1]
    have hrow : VL τ (args.app cap) (d.args ++ cs).toList := by
      have := VL.app hcap hargs
      simpa using this
    obtain ⟨e1, e2⟩ := hD τ _ w' _ hrow g3.ok (ext_app he) (fresh_next g3 m.next hfr)
    refine ⟨by simp, .inr ⟨fun h => (by cases h), .func f2, cs, f2, d.args ++ cs, htar, ?_, fun _ _ => trivial, ?_⟩⟩
    · rw [htar]; exact e1
    · refine CallsDIn.mono e2 fun e u w'' he' => ?_
      cases e with
      | returned x =>
        obtain ⟨rfl, υ, hp⟩ := he'
        have hp2 := g3.trans hp m.next m1.next
        rw [app_trans m ho he fun b hb hb' => hfr b hb (Nat.lt_of_lt_of_le hb' m1.next)] at hp2
        obtain ⟨u, q1, q2⟩ := hr υ _ w'' a'.tmps (g1.mono hp.le) hp2.ok (ext_app he)
        exact ⟨u, q1, υ, q2, hp2⟩
      | panicked c => exact he'.elim
      | outgrown => exact he'.elim

/-- the panic road, with its own fuel, over an evaluator -/
noncomputable def pev (fc : List Fact) (tb : T MF) (cl : Cl) (self : Slf) (fuel : Nat) : PSlf :=
  Nat.rec (motive := fun _ => PSlf) (fun _ _ _ _ _ _ => false) (fun _ ih => pvC fc cl (pcallK tb ih) self ih) fuel
theorem pev_ok {tb : T MF} {cl : Cl} {self : Slf} (htb : TbOK X tb) (hcl : ClOK X cl) (hself : SelfOK X self) : ∀ fuel, PSelfOK X (pev X.fc tb cl self fuel)
  | 0 => fun n g m is _ ro fr ds h K hk => by cases hk
  | fuel + 1 => pvC_ok hcl hself (pcallK_ok htb (pev_ok htb hcl hself fuel)) (pev_ok htb hcl hself fuel)
/-- a function that may recover: first as it stands, then by the panic road -/
noncomputable def pxTry (fc : List Fact) (tb : T MF) (rt : T MRf) (px : Px) (fuel f : Nat) : Px := fun g l h ks kn =>
  sel (Nat.beq g f) (sel kn true (tryK tb (ev fc tb rt px fuel) (pev fc tb (clK tb rt px (ev fc tb rt px fuel)) (ev fc tb rt px fuel) fuel) f l h ks)) (px g l h ks kn)
theorem pxTry_ok {tb : T MF} {px : Px} (htb : TbOK X tb) (hpx : PxOK X px) {fuel f : Nat} : PxOK X (pxTry X.fc tb X.rt px fuel f) := by
  intro g l h ks kn hk
  unfold pxTry at hk
  rcases sel_eq hk with ⟨h1, hk⟩ | ⟨_, hk⟩
  · have e := Nat.eq_of_beq_eq_true h1
    subst e
    rcases sel_eq hk with ⟨hk, _⟩ | ⟨_, hk⟩
    · exact .inr hk
    · have hs := ev_ok (X := X) htb hpx fuel
      exact .inl (tryK_inv htb hs (pev_ok htb (clK_ok htb hpx hs) hs fuel) hk)
  · exact hpx _ _ _ _ _ hk
end Go.Ev
end

section
set_option linter.unusedVariables false
set_option linter.unusedSimpArgs false
namespace Go.Ev

variable {X : Cx} {σ : Sig} {n : Nat} {ro : Option Nat} {fr : Fr} {ds : List Df} {h : H} {a : Act} {w : World} {fc : List Fact}

/-! ### what is shown without facts holds with them -/
theorem ok_dn {G : Hp} (ho : Ok (X.withF fc) σ G w) : Ok (X.withF []) σ G w :=
  ⟨fun b x hx => let ⟨B, h1, h2⟩ := ho.rel b x hx; ⟨B, h1, RelC.withF.2 (RelC.withF.1 h2)⟩, ho.sep, ⟨ho.sane.glob, fun e he => (by cases he), ho.sane.gsz⟩⟩
theorem ok_up {G G' : Hp} {τ : Sig} {w' : World} (ho : Ok (X.withF fc) σ G w) (hs : σ.le τ) (hk : Ok (X.withF []) τ G' w') : Ok (X.withF fc) τ G' w' :=
  ⟨fun b x hx => let ⟨B, h1, h2⟩ := hk.rel b x hx; ⟨B, h1, RelC.withF.2 (RelC.withF.1 h2)⟩, hk.sep, ⟨hk.sane.glob, (ho.sane.mono hs).fact, hk.sane.gsz⟩⟩
theorem post_up {G G' : Hp} {τ : Sig} {w' : World} {lo hi : Nat} (ho : Ok (X.withF fc) σ G w) (hp : Post (X.withF []) σ G w lo hi τ G' w') : Post (X.withF fc) σ G w lo hi τ G' w' :=
  ⟨hp.le, hp.out, ok_up ho hp.le hp.ok, hp.os, hp.tape, hp.output, hp.size, hp.frame, hp.own⟩
theorem cdoes_up {is : List Item} {o : Out} (hd : CDoes (X.withF []) n ro is fr ds h o) : CDoes (X.withF fc) n ro is fr ds h o :=
  fun σ G a w rm hro hf hdf ho he hfr => RunIn.mono (hd σ G a w rm hro hf hdf (ok_dn ho) he hfr) fun e a' w' ⟨h1, τ, h2, h3, h4⟩ => ⟨h1, τ, h2, h3, post_up ho h4⟩

/-! ### a function's head, and the rest -/
noncomputable def seqK (m : MC) (k : MC → MC → Bool) : Bool := match m with | .seq a b => k a b | _ => false
theorem seqK_inv {m : MC} {k : MC → MC → Bool} (hk : seqK m k = true) : ∃ a b, m = .seq a b ∧ k a b = true := by
  unfold seqK at hk
  split at hk
  · exact ⟨_, _, rfl, hk⟩
  · cases hk
theorem compC_seq {g : Nat} {c : Code} {a b : MC} (hc : compC X.E X.ng n g c = some (.seq a b)) : ∃ x y, c = .seq x y ∧ compC X.E X.ng n g x = some a ∧ compC X.E X.ng n g y = some b := by
  cases c with
  | seq x y =>
    simp only [compC] at hc
    split at hc
    · rename_i p q hx hy
      cases hc
      exact ⟨x, y, rfl, hx, hy⟩
    · cases hc
  | loop c =>
    exfalso
    simp only [compC] at hc
    split at hc
    · rename_i x hx
      split at hc
      · rename_i y hy
        cases hc
        obtain ⟨it, t1, t2, t, off, l, id, id2, B, mb, _, _, _, _, _, _, _, e⟩ := hvMC_inv hx hy
        cases e
      · cases hc
    · cases hc
  | _ =>
    exfalso
    simp only [compC] at hc
    repeat' (first | contradiction | (cases hc; done) | split at hc)
noncomputable def headK (fc : List Fact) (cl : Cl) (self : Slf) (hv : List Sl) (d : Nat) : MC → Fr → List Df → H → (MC → Fr → List Df → H → Bool) → Bool :=
  Nat.rec (motive := fun _ => MC → Fr → List Df → H → (MC → Fr → List Df → H → Bool) → Bool) (fun m fr ds h K => havF hv fr fun fr => K m fr ds h)
    (fun _ ih m fr ds h K => seqK m fun a b => evC fc cl self a none fr ds h (normJ fun fr ds h => ih b fr ds h K)) d
theorem headK_inv {cl : Cl} {self : Slf} (hcl : ClOK X cl) (hself : SelfOK X self) {hv : List Sl} {g : Nat} (hlp : ∀ q, lpOf X.P g = some q → q.1 = n) {K : MC → Fr → List Df → H → Bool} : ∀ {d : Nat} {c : Code} {m : MC} {fr : Fr} {ds : List Df} {h : H},
    compC X.E X.ng n g c = some m → rfAll ((lpOf X.P g).map (·.2)) c → headK X.fc cl self hv d m fr ds h K = true →
      ∃ c' m' fr' ds' h', compC X.E X.ng n g c' = some m' ∧ rfAll ((lpOf X.P g).map (·.2)) c' ∧ K m' fr' ds' h' = true ∧ Mv h h' ∧ ∀ o, Mv h' o.h → CDoes X n none [.code c'] fr' ds' h' o → CDoes X n none [.code c] fr ds h o
  | 0, c, m, fr, ds, h, hc, hrf, hk => by
    obtain ⟨f, hk, hf⟩ := havF_inv hk
    exact ⟨c, m, f, ds, h, hc, hrf, hk, Mv.refl h, fun o _ hd σ G a w rm hro hfr => hd σ G a w rm hro (hf _ _ _ hfr)⟩
  | d + 1, c, m, fr, ds, h, hc, hrf, hk => by
    obtain ⟨x, y, rfl, hk⟩ := seqK_inv hk
    obtain ⟨p, q, rfl, hx, hy⟩ := compC_seq hc
    obtain ⟨j, o1, e, hk, mv, hdo⟩ := evC_ok hcl hself n g x _ (.code hx hrf.1 hlp) none _ _ _ _ hk
    obtain ⟨hj, hk⟩ := normJ_inv hk
    obtain ⟨c', m', fr', ds', h', g1, g2, g3, g4, g5⟩ := headK_inv hcl hself hlp hy hrf.2 hk
    exact ⟨c', m', fr', ds', h', g1, g2, g3, mv.trans g4, fun o mo hd => .seq mv (g4.trans mo) (by rw [e, hj]) hdo (g5 o mo hd)⟩
/-- a call's head -/
noncomputable def headC (fc : List Fact) (tb : T MF) (cl : Cl) (self : Slf) (hv : List Sl) (d f : Nat) (l : AV) (h : H) (K : MC → List MR → Fr → List Df → H → Bool) : Bool :=
  T.getK tb f (fun mf => MF.rec (motive := fun _ => Bool) (fun n body res => frameK n l fun fr => headK fc cl self hv d body fr [] h fun m fr ds h => K m res fr ds h) (fun _ _ _ _ => false) mf) false
/-- the rest of a call -/
noncomputable def tailC (tb : T MF) (rt : T MRf) (px : Px) (fuel : Nat) (k : Kt) : MC → List MR → Fr → List Df → H → Bool := fun m res fr ds h =>
  ev [] tb rt px fuel m none fr ds h fun j fr ds h => onEnd j (leaveK (clD tb (ev [] tb rt px fuel)) res fr ds h k)
/-- the head with facts, the rest without -/
theorem head_tail {tb : T MF} {px : Px} {cl : Cl} {self : Slf} (htb : TbOK X tb) (hpx : PxOK (X.withF []) px) (hcl : ClOK (X.withF fc) cl) (hself : SelfOK (X.withF fc) self) {hv : List Sl} {d f fuel : Nat} {l : AV} {k : Kt}
    (hk : headC fc tb cl self hv d f l h (tailC tb X.rt px fuel k) = true) : ∃ v h', Mv h h' ∧ k v h' = true ∧ CallD (X.withF fc) f l h v h' := by
  obtain ⟨mf, hget, hk⟩ := getT_inv hk
  obtain ⟨fn, hfn, hname, hc⟩ := htb f mf hget
  cases mf with
  | dk n s body res => cases hk
  | mk n body res =>
    obtain ⟨c, hb, hn, hn3, rep, hres⟩ := compF_mk hfn hc
    subst hn
    have hk : frameK fn.ntmps l (fun fr => headK fc cl self hv d body fr [] h fun m fr ds h => tailC tb X.rt px fuel k m res fr ds h) = true := hk
    obtain ⟨fr, hk, hframe⟩ := frameK_inv hn3 hk
    have htb0 : TbOK (X.withF []) tb := htb
    have hself0 := ev_ok (X := X.withF []) htb0 hpx fuel
    cases rep with
    | code hcc hrf hlp =>
      obtain ⟨c', m', fr', ds', h', g1, g2, hk, g4, g5⟩ := headK_inv (X := X.withF fc) hcl hself hlp hcc hrf hk
      obtain ⟨j, o, e, hk, m, hdo⟩ := hself0 _ f m' _ (.code g1 g2 hlp) none _ _ _ _ hk
      obtain ⟨he, hk⟩ := onEnd_inv hk
      obtain ⟨v, h2, m2, hk, hleave⟩ := leaveK_inv (X := X.withF []) (clD_ok htb0 hself0) hres hk
      refine ⟨v, h2, (g4.trans m).trans m2, hk, ?_⟩
      refine call_of_body (X := X.withF fc) (cl := clD tb (ev [] tb X.rt px fuel)) hfn hb hname hframe (g5 o m (cdoes_up hdo)) (by rw [e]; exact he) (g4.trans m) m2 ?_
      intro σ G a w R hf hd ho hext hfr hR
      exact hleave σ G a w R hf hd (ok_dn ho) hext hfr fun x τ w' hV hp => hR x τ w' hV (post_up ho hp)
end Go.Ev
end

section
set_option linter.unusedVariables false
set_option linter.unusedSimpArgs false
namespace Go.Ev

variable {X : Cx} {σ : Sig} {n : Nat} {fr : Fr} {h : H} {a : Act} {w : World}

/-! ### a call that only makes blocks which are not looked at -/
theorem Post.keep {G : Hp} {w' : World} {i : Nat} (ho : Ok X σ G w) (hk : ∀ r, r < w.heap.size → w'.heap[r]? = w.heap[r]?) (h1 : w'.os = w.os) (h2 : w'.tape = w.tape) (h3 : w'.output = w.output) (h4 : w.heap.size ≤ w'.heap.size) : Post X σ G w i i σ G w' :=
  ⟨.refl _, fun _ _ => rfl, ⟨fun c x hx => let ⟨B, hB, hr⟩ := ho.rel c x hx; ⟨B, hB, hr.turn (hk _ hr.lt)⟩, ho.sep, ho.sane⟩, h1, h2, h3, h4, fun r hr _ => hk r hr, fun r h => .inl h⟩

/-! ### strconv.Itoa of a number that is not known -/
/-- a row of numbers -/
def ints (k : IntKind) : List Int → AV
  | [] => .nil
  | z :: l => .cons (.int k z) (ints k l)
theorem VL.ints {k : IntKind} : ∀ {l : List Int} {vs : List Value}, VL σ (ints k l) vs → vs = l.map fun z => Value.int k z
  | [], vs, h => h.nil_inv
  | z :: l, vs, h => by
    obtain ⟨v, us, rfl, h1, h2⟩ := h.cons_inv
    rw [h1.int_inv, VL.ints h2]
    rfl
def powL : List Int := [1, 10, 100, 1000, 10000, 100000, 1000000, 10000000, 100000000, 1000000000, 10000000000, 100000000000, 1000000000000, 10000000000000, 100000000000000, 1000000000000000, 10000000000000000, 100000000000000000, 1000000000000000000, 10000000000000000000]
theorem powL_eq : powL = Lib.pow10Tab := by decide
noncomputable def itP (fc : List Fact) (f0 g0 : Nat) : Px := fun f l h ks kn => sel (Nat.beq f f0) (match l with
  | .cons (.sym i) .nil => hasB h g0 (ints .u64 powL) 0 (fcK .itoa (.s i) (.s i) (fun v => ks v h) fc)
  | _ => kn) kn
def ItC (X : Cx) (f0 : Nat) : Prop := ∀ (n : Int) (w : World), -9223372036854775808 ≤ n → n ≤ 9223372036854775807 → Lib.TabIs X.P w "internal/strconv.uint64pow10" .u64 Lib.pow10Tab →
  Calls X.P f0 #[.int .i64 n] w fun e w' => e = .returned (.string ⟨(Lib.itoa n).toArray⟩) ∧ ∃ k os, w' = Go.Sort.grow (w.drewN k) os
/-- a variable that is a row of numbers -/
theorem var_ints {G : Hp} {g : Nat} {k : IntKind} {l : List Int} {ts : Nat} {ro p : Bool} {el fz : Nat} (ho : Ok X σ G w) (hg : g < X.ng) (hn : X.gn g = l.length) (hG : G g = some ⟨ts, ro, .cells (ints k l) el fz p true⟩) :
    ∃ q fr, w.heap[g]? = some (.cells (l.map fun z => Value.int k z).toArray q fr) := by
  obtain ⟨B, hB, hr⟩ := ho.rel g _ hG
  obtain ⟨B', hB', e1, e2⟩ := ho.sane.glob g hg
  rw [hB] at hB'; cases hB'
  have e3 := ho.sane.gsz g hg B hB
  obtain ⟨C, fr, ⟨q, h1, _⟩, h2, ⟨vs, h3, h4, h5⟩, _⟩ := hr
  have h6 := VL.ints h3
  refine ⟨q, fr, ?_⟩
  rw [← e1, h1]
  congr 2
  apply Array.ext'
  rw [List.toList_toArray, ← h6]
  apply List.ext_getElem?
  intro i
  rcases Nat.lt_or_ge i vs.length with hi | hi
  · have := h5 i vs[i] (List.getElem?_eq_getElem hi)
    rw [e2, Nat.zero_add] at this
    rw [Array.getElem?_toList, this, List.getElem?_eq_getElem hi]
  · have hl : vs.length = l.length := by rw [h6, List.length_map]
    rw [List.getElem?_eq_none hi, List.getElem?_eq_none]
    rw [Array.length_toList]; omega
theorem itP_ok {f0 g0 : Nat} (hc : ItC X f0) (hent : Enters X f0) (hg : g0 < X.ng) (hn : X.gn g0 = 20) (hnm : X.P.globalNamed "internal/strconv.uint64pow10" = some g0) : PxOK X (itP X.fc f0 g0) := by
  intro f l h ks kn hk
  unfold itP at hk
  rcases sel_eq hk with ⟨h1, hk1⟩ | ⟨_, hk1⟩
  · have e := Nat.eq_of_beq_eq_true h1
    subst e
    split at hk1
    · rename_i i
      obtain ⟨hb, hk2⟩ := hasB_inv hk1
      obtain ⟨e, hK, he, hf⟩ := fact_at hk2
      refine px_same (.inl ⟨_, hK, fun σ G w vs hv ho hext hfr => ?_⟩)
      obtain ⟨u, us, e1, g1, g2⟩ := hv.cons_inv
      obtain ⟨k, z, k', z', rfl, _, h2, h3, h4⟩ := hf ho.sane g1 g1
      have h4 := h4 k z k' z' h2 h3
      rw [he] at h4
      obtain ⟨rfl, q1, q2, q3⟩ := h4
      have evs : vs = #[.int .i64 z] := by
        apply Array.toList_inj.1
        rw [e1, g2.nil_inv]
      subst evs
      refine ⟨hent _ _, callsIn_wide.2 ?_⟩
      have ht : Lib.TabIs X.P w "internal/strconv.uint64pow10" .u64 Lib.pow10Tab := by
        obtain ⟨q, fr, hh⟩ := var_ints ho hg (by rw [hn]; rfl) (hext g0 _ hb)
        unfold Lib.TabIs World.var?
        rw [hnm, Option.bind_some, hh, powL_eq]
      refine (hc z w q1 q2 ht).mono fun e w' he' => ?_
      obtain ⟨rfl, k, os, rfl⟩ := he'
      refine ⟨σ, q3, ?_⟩
      rw [app_self]
      refine Post.keep ho (fun r hr => ?_) rfl rfl rfl ?_
      · show (w.heap ++ os)[r]? = _
        rw [Array.getElem?_append_left hr]
      · show w.heap.size ≤ (w.heap ++ os).size
        rw [Array.size_append]; omega
    · exact .inr hk1
  · exact .inr hk1
end Go.Ev
end

section
set_option linter.unusedVariables false
set_option linter.unusedSimpArgs false
namespace Go.Ev

variable {σ : Sig}

/-! ### facts, by kinds -/
theorem sv_inv {i : Nat} {k q : IntKind} {a z : Int} (h : σ.sym.val i = .int k a) (hx : V σ (FA.s i).av (.int q z)) : q = k ∧ z = a := by
  have hx : Value.int q z = σ.sym.val i := hx
  rw [h] at hx
  injection hx with h1 h2
  exact ⟨h1, h2⟩
theorem cv_inv' {k q : IntKind} {a z : Int} (hx : V σ (FA.c k a).av (.int q z)) : q = k ∧ z = a := by
  have hx : Value.int q z = .int k a := hx
  injection hx with h1 h2
  exact ⟨h1, h2⟩
/-- a number, known or not, is so much -/
def Is (σ : Sig) (x : FA) (k : IntKind) (a : Int) : Prop := ∀ {q : IntKind} {z : Int}, V σ x.av (.int q z) → q = k ∧ z = a
theorem Is.c {k : IntKind} {a : Int} : Is σ (.c k a) k a := fun hx => cv_inv' hx
theorem Is.s {i : Nat} {k : IntKind} {a : Int} (h : σ.sym.val i = .int k a) : Is σ (.s i) k a := fun hx => sv_inv h hx
theorem fBin {o : BinOp} {x y : FA} {v : AV} {k k' : IntKind} {a b : Int} {u : Value} (hx : Is σ x k a) (hy : Is σ y k' b) (hv : V σ v u) (hr : ∀ P t w, (binOp o t (.int k a) (.int k' b)).run P w = .ok u w) : FactOK σ ⟨.bin o, x, y, v⟩ := by
  intro q i q' j h1 h2
  obtain ⟨rfl, rfl⟩ := hx h1
  obtain ⟨rfl, rfl⟩ := hy h2
  exact ⟨u, hv, hr⟩
theorem fAdd {x y : FA} {v : AV} {k : IntKind} {a b : Int} (hx : Is σ x k a) (hy : Is σ y k b) (hv : V σ v (.int k (k.wrap (a + b)))) : FactOK σ ⟨.bin .add, x, y, v⟩ :=
  fBin hx hy hv fun P t w => by simp [binOp, Op.intArith]
theorem fSub {x y : FA} {v : AV} {k : IntKind} {a b : Int} (hx : Is σ x k a) (hy : Is σ y k b) (hv : V σ v (.int k (k.wrap (a - b)))) : FactOK σ ⟨.bin .sub, x, y, v⟩ :=
  fBin hx hy hv fun P t w => by simp [binOp, Op.intArith]
theorem fMul {x y : FA} {v : AV} {k : IntKind} {a b : Int} (hx : Is σ x k a) (hy : Is σ y k b) (hv : V σ v (.int k (k.wrap (a * b)))) : FactOK σ ⟨.bin .mul, x, y, v⟩ :=
  fBin hx hy hv fun P t w => by simp [binOp, Op.intArith]
theorem fQuo {x y : FA} {v : AV} {k : IntKind} {a b : Int} (hx : Is σ x k a) (hy : Is σ y k b) (hb : b ≠ 0) (hv : V σ v (.int k (k.wrap (a.tdiv b)))) : FactOK σ ⟨.bin .quo, x, y, v⟩ :=
  fBin hx hy hv fun P t w => by simp [binOp, Op.intDiv, hb]
theorem fRem {x y : FA} {v : AV} {k : IntKind} {a b : Int} (hx : Is σ x k a) (hy : Is σ y k b) (hb : b ≠ 0) (hv : V σ v (.int k (a.tmod b))) : FactOK σ ⟨.bin .rem, x, y, v⟩ :=
  fBin hx hy hv fun P t w => by simp [binOp, Op.intDiv, hb]
theorem fEq {x y : FA} {r : Bool} {k : IntKind} {a b : Int} (hx : Is σ x k a) (hy : Is σ y k b) (hr : (a == b) = r) : FactOK σ ⟨.bin .eql, x, y, .bool r⟩ :=
  fBin hx hy (u := .bool r) rfl fun P t w => by simp [binOp, Op.intCmp, ← hr]
theorem fNe {x y : FA} {r : Bool} {k : IntKind} {a b : Int} (hx : Is σ x k a) (hy : Is σ y k b) (hr : (a != b) = r) : FactOK σ ⟨.bin .neq, x, y, .bool r⟩ :=
  fBin hx hy (u := .bool r) rfl fun P t w => by simp [binOp, Op.intCmp, ← hr]
theorem fLt {x y : FA} {r : Bool} {k : IntKind} {a b : Int} (hx : Is σ x k a) (hy : Is σ y k b) (hr : decide (a < b) = r) : FactOK σ ⟨.bin .lss, x, y, .bool r⟩ :=
  fBin hx hy (u := .bool r) rfl fun P t w => by simp [binOp, Op.intCmp, ← hr]
theorem fLe {x y : FA} {r : Bool} {k : IntKind} {a b : Int} (hx : Is σ x k a) (hy : Is σ y k b) (hr : decide (a ≤ b) = r) : FactOK σ ⟨.bin .leq, x, y, .bool r⟩ :=
  fBin hx hy (u := .bool r) rfl fun P t w => by simp [binOp, Op.intCmp, ← hr]
theorem fGt {x y : FA} {r : Bool} {k : IntKind} {a b : Int} (hx : Is σ x k a) (hy : Is σ y k b) (hr : decide (b < a) = r) : FactOK σ ⟨.bin .gtr, x, y, .bool r⟩ :=
  fBin hx hy (u := .bool r) rfl fun P t w => by simp [binOp, Op.intCmp, ← hr]
theorem fGe {x y : FA} {r : Bool} {k : IntKind} {a b : Int} (hx : Is σ x k a) (hy : Is σ y k b) (hr : decide (b ≤ a) = r) : FactOK σ ⟨.bin .geq, x, y, .bool r⟩ :=
  fBin hx hy (u := .bool r) rfl fun P t w => by simp [binOp, Op.intCmp, ← hr]
theorem fCvi {x y : FA} {v : AV} {q k : IntKind} {a : Int} (hx : Is σ x k a) (hv : V σ v (.int q (q.wrap a))) : FactOK σ ⟨.cvi q, x, y, v⟩ := by
  intro p i p' j h1 h2
  obtain ⟨rfl, rfl⟩ := hx h1
  exact hv
theorem fNeg {x y : FA} {v : AV} {k : IntKind} {a : Int} (hx : Is σ x k a) (hv : V σ v (.int k (k.wrap (0 - a)))) : FactOK σ ⟨.neg, x, y, v⟩ := by
  intro p i p' j h1 h2
  obtain ⟨rfl, rfl⟩ := hx h1
  exact hv
theorem fMin {x y : FA} {v : AV} {k k' : IntKind} {a b : Int} (hx : Is σ x k a) (hy : Is σ y k' b) (hv : V σ v (.int k (if b < a then b else a))) : FactOK σ ⟨.min, x, y, v⟩ := by
  intro p i p' j h1 h2
  obtain ⟨rfl, rfl⟩ := hx h1
  obtain ⟨rfl, rfl⟩ := hy h2
  exact hv
theorem fItoa {x y : FA} {v : AV} {a : Int} (hx : Is σ x .i64 a) (h0 : -9223372036854775808 ≤ a) (h1 : a ≤ 9223372036854775807) (hv : V σ v (.string ⟨(Lib.itoa a).toArray⟩)) : FactOK σ ⟨.itoa, x, y, v⟩ := by
  intro p i p' j h1 h2
  obtain ⟨rfl, rfl⟩ := hx h1
  exact ⟨rfl, h0, by assumption, hv⟩
end Go.Ev
end
