/- Statements and calls of the evaluator. -/
import Derived.Test.YtjbckgabnkljlaaGreatDoorEvD
import Derived.RecoverIn

section
set_option linter.unusedVariables false
set_option linter.unusedSimpArgs false
namespace Go.Ev

variable {X : Cx} {σ : Sig} {n : Nat} {fr : Fr} {a : Act} {w : World}

/-! ### memories one behind the other -/
structure Mv (h h' : H) : Prop where
  next : h.next ≤ h'.next
  clk : h.clk ≤ h'.clk
  ts : ∀ b x, h'.get b ≠ h.get b → h'.get b = some x → h.clk ≤ x.ts
  dom : ∀ b, h'.get b ≠ h.get b → h.get b ≠ none ∨ (h.next ≤ b ∧ b < h'.next)
theorem Mv.refl (h : H) : Mv h h := ⟨Nat.le_refl _, Nat.le_refl _, fun _ _ h => absurd rfl h, fun _ h => absurd rfl h⟩
theorem Mv.trans {h h' h'' : H} (p : Mv h h') (q : Mv h' h'') : Mv h h'' := by
  refine ⟨Nat.le_trans p.next q.next, Nat.le_trans p.clk q.clk, fun b x hne hx => ?_, fun b hne => ?_⟩
  · by_cases e : h''.get b = h'.get b
    · exact p.ts b x (by rw [← e]; exact hne) (by rw [← e]; exact hx)
    · exact Nat.le_trans p.clk (q.ts b x e hx)
  · by_cases e : h'.get b = h.get b
    · rcases q.dom b (by rw [e]; exact hne) with h1 | ⟨h1, h2⟩
      · exact .inl (by rw [← e]; exact h1)
      · exact .inr ⟨Nat.le_trans p.next h1, h2⟩
    · rcases p.dom b e with h1 | ⟨h1, h2⟩
      · exact .inl h1
      · exact .inr ⟨h1, Nat.lt_of_lt_of_le h2 q.next⟩
theorem Turn.mv {h h' : H} {s : Stp} (t : Turn h s h') : Mv h h' := by
  have key : ∀ b, h'.get b ≠ h.get b → ∃ y, s.W b = some y ∧ h'.get b = y := fun b hne => by
    rw [t.get] at hne ⊢
    unfold app at hne ⊢
    cases e : s.W b with
    | none => rw [e] at hne; exact absurd rfl hne
    | some y => exact ⟨y, rfl, rfl⟩
  refine ⟨t.le, by rw [t.clk]; exact Nat.le_refl _, fun b x hne hx => ?_, fun b hne => ?_⟩
  · obtain ⟨y, h1, h2⟩ := key b hne
    rw [hx] at h2
    subst h2
    rw [t.ts b x h1]; exact Nat.le_refl _
  · obtain ⟨y, h1, h2⟩ := key b hne
    rcases t.dom b (by rw [h1]; simp) with h3 | ⟨h3, h4⟩
    · left
      intro e
      cases hd : s.D b with
      | none => exact h3 hd
      | some z => rw [t.sub b z hd] at e; cases e
    · exact .inr ⟨by rw [← t.lo]; exact h3, by rw [← t.hi]; exact h4⟩

/-- the changes of a step, seen from the memory at hand -/
theorem app_turn {h h' : H} {s : Stp} (t : Turn h s h') {σ : Sig} {G : Hp} {w : World} (ho : Ok X σ G w) (he : Ext G h.get) (hf : ∀ b, h.next ≤ b → b < h'.next → σ.bk b = none) : app s.W G = app (diff h.get h'.get) G := by
  have hnone : ∀ b, σ.bk b = none → G b = none := fun b hb => by
    cases hg : G b with
    | none => rfl
    | some x => obtain ⟨B, h1, _⟩ := ho.rel b x hg; rw [hb] at h1; cases h1
  funext b
  unfold app diff
  cases e : s.W b with
  | none =>
    have : h'.get b = h.get b := by rw [t.get]; unfold app; rw [e]; rfl
    simp [this]
  | some y =>
    have hy : h'.get b = y := by rw [t.get]; unfold app; rw [e]; rfl
    rw [hy]
    by_cases hb : y = h.get b
    · rw [if_pos hb]
      simp only [Option.getD_some, Option.getD_none]
      cases hx : h.get b with
      | some x => rw [he b x hx, hb, hx]
      | none =>
        rw [hb, hx]
        rcases t.dom b (by rw [e]; simp) with h1 | ⟨h1, h2⟩
        · exfalso
          cases hd : s.D b with
          | none => exact h1 hd
          | some z => rw [t.sub b z hd] at hx; cases hx
        · exact (hnone b (hf b (by rw [← t.lo]; exact h1) (by rw [← t.hi]; exact h2))).symm
    · rw [if_neg hb]
theorem app_trans {h h' h'' : H} (p : Mv h h') {σ : Sig} {G : Hp} {w : World} (ho : Ok X σ G w) (he : Ext G h.get) (hf : ∀ b, h.next ≤ b → b < h'.next → σ.bk b = none) :
    app (diff h'.get h''.get) (app (diff h.get h'.get) G) = app (diff h.get h''.get) G := by
  have hnone : ∀ b, σ.bk b = none → G b = none := fun b hb => by
    cases hg : G b with
    | none => rfl
    | some x => obtain ⟨B, h1, _⟩ := ho.rel b x hg; rw [hb] at h1; cases h1
  funext b
  unfold app diff
  by_cases e1 : h''.get b = h'.get b
  · rw [if_pos e1]
    by_cases e2 : h'.get b = h.get b
    · rw [if_pos e2, if_pos (e1.trans e2)]; rfl
    · rw [if_neg e2, if_neg (by rw [e1]; exact e2), e1]; rfl
  · rw [if_neg e1]
    by_cases e3 : h''.get b = h.get b
    · rw [if_pos e3]
      simp only [Option.getD_some, Option.getD_none]
      cases hx : h.get b with
      | some x => rw [e3, hx, he b x hx]
      | none =>
        have e2 : h'.get b ≠ h.get b := fun e => e1 (by rw [e3, e])
        rcases p.dom b e2 with h1 | ⟨h1, h2⟩
        · exact absurd hx h1
        · rw [e3, hx, hnone b (hf b h1 h2)]
    · rw [if_neg e3]; rfl
theorem ext_app {h h' : H} {G : Hp} (he : Ext G h.get) : Ext (app (diff h.get h'.get) G) h'.get := by
  intro b x hx
  unfold app diff
  by_cases e : h'.get b = h.get b
  · rw [if_pos e]; exact he b x (by rw [← e]; exact hx)
  · rw [if_neg e]; exact hx
theorem app_self (h : H) (G : Hp) : app (diff h.get h.get) G = G := by
  funext b; simp [app, diff]

/-! ### deferred calls -/
inductive Df where
  | mark (b : Nat)
  | fn (f : Nat) (cap args : AV)
def DF1 (σ : Sig) : Df → Deferred → Prop
  | .mark b, d => ∃ B, σ.bk b = some B ∧ d.target = .collected B.r
  | .fn f cap args, d => ∃ cs, d.target = .fn (.func f) cs ∧ VL σ cap cs.toList ∧ VL σ args d.args.toList
def DF (σ : Sig) : List Df → List Deferred → Prop
  | [], ds => ds = []
  | x :: l, ds => ∃ d r, ds = d :: r ∧ DF1 σ x d ∧ DF σ l r
theorem DF1.mono {σ τ : Sig} (hs : σ.le τ) {x : Df} {d : Deferred} (h : DF1 σ x d) : DF1 τ x d := by
  cases x with
  | mark b => obtain ⟨B, h1, h2⟩ := h; exact ⟨B, hs.1 _ _ h1, h2⟩
  | fn f cap args => obtain ⟨cs, h1, h2, h3⟩ := h; exact ⟨cs, h1, h2.mono hs, h3.mono hs⟩
theorem DF.mono {σ τ : Sig} (hs : σ.le τ) : ∀ {l : List Df} {ds : List Deferred}, DF σ l ds → DF τ l ds
  | [], _, h => h
  | _ :: _, _, ⟨d, r, h, h1, h2⟩ => ⟨d, r, h, h1.mono hs, DF.mono hs h2⟩

/-! ### what a piece of code does -/
abbrev Fw (rm : Option Nat) : Fence := { Fence.wide with round := rm }
/-- the round in which we are: none, or that of a loop's record -/
def Ro (σ : Sig) : Option Nat → Option Nat → Prop
  | none, rm => rm = none
  | some b, rm => ∃ B, σ.bk b = some B ∧ rm = some B.r
theorem Ro.mono {σ τ : Sig} (hs : σ.le τ) {ro rm : Option Nat} (h : Ro σ ro rm) : Ro τ ro rm := by
  cases ro with
  | none => exact h
  | some b => obtain ⟨B, h1, h2⟩ := h; exact ⟨B, hs.1 _ _ h1, h2⟩

/-- items at the head of what is to be done -/
def RunIn (F : Fence) (P : Program) (is : List Item) (Q : Exit → Act → World → Prop) (a : Act) (w : World) : Prop :=
  ∀ (b : Frame) (k : List Item) (cs : List Frame), b.roundOf = F.round → F.fn b.fn → F.room (cs.length + 1 + 0) →
    ∃ e a' w', Q e a' w' ∧ ArrivesIn (Machine.fenced P F) P (lone (b.atR a (is ++ k)) cs w) b k cs e a' w'
theorem RunIn.code {F : Fence} {P : Program} {c : Code} {Q : Exit → Act → World → Prop} : RunIn F P [.code c] Q a w ↔ c.wpIn F 0 P Q a w := Iff.rfl
theorem RunIn.mono {F : Fence} {P : Program} {is : List Item} {Q Q' : Exit → Act → World → Prop} (h : RunIn F P is Q a w) (hq : ∀ e a w, Q e a w → Q' e a w) : RunIn F P is Q' a w :=
  fun b k cs hro hb hr => let ⟨e, a', w', q, r⟩ := h b k cs hro hb hr; ⟨e, a', w', hq _ _ _ q, r⟩

/-- the end of a piece of code, as reckoned -/
structure Out where
  e : Exit
  fr : Fr
  ds : List Df
  h : H
/-- what holds at the end -/
def EndQ (X : Cx) (n : Nat) (σ : Sig) (G : Hp) (w : World) (h : H) (o : Out) : Exit → Act → World → Prop := fun e a' w' =>
  e = o.e ∧ ∃ τ, RF τ n o.fr a'.tmps ∧ DF τ o.ds a'.defers ∧ Post X σ G w h.next o.h.next τ (app (diff h.get o.h.get) G) w'
def CDoes (X : Cx) (n : Nat) (ro : Option Nat) (is : List Item) (fr : Fr) (ds : List Df) (h : H) (o : Out) : Prop :=
  ∀ (σ : Sig) (G : Hp) (a : Act) (w : World) (rm : Option Nat), Ro σ ro rm → RF σ n fr a.tmps → DF σ ds a.defers → Ok X σ G w → Ext G h.get → (∀ b, h.next ≤ b → b < o.h.next → σ.bk b = none) →
    RunIn (Fw rm) X.P is (EndQ X n σ G w h o) a w

/-- from the end of the first piece on -/
theorem EndQ.next {σ : Sig} {G : Hp} {h h₁ : H} {τ : Sig} {w₁ : World} {o : Out} {e : Exit} {a₂ : Act} {w₂ : World} (m1 : Mv h h₁) (m2 : Mv h₁ o.h) (ho : Ok X σ G w) (he : Ext G h.get) (hf : ∀ b, h.next ≤ b → b < o.h.next → σ.bk b = none)
    (hp : Post X σ G w h.next h₁.next τ (app (diff h.get h₁.get) G) w₁) (hq : EndQ X n τ (app (diff h.get h₁.get) G) w₁ h₁ o e a₂ w₂) : EndQ X n σ G w h o e a₂ w₂ := by
  obtain ⟨h1, υ, h2, h3, h4⟩ := hq
  refine ⟨h1, υ, h2, h3, ?_⟩
  have := hp.trans h4 m1.next m2.next
  rwa [app_trans m1 ho he fun b hb hb' => hf b hb (Nat.lt_of_lt_of_le hb' m2.next)] at this
theorem fresh_next {σ τ : Sig} {G G' : Hp} {h h₁ h₂ : H} {w₁ : World} (hp : Post X σ G w h.next h₁.next τ G' w₁) (m1 : h.next ≤ h₁.next) (hf : ∀ b, h.next ≤ b → b < h₂.next → σ.bk b = none) : ∀ b, h₁.next ≤ b → b < h₂.next → τ.bk b = none := by
  intro b h1 h2
  rw [hp.out b (by omega)]
  exact hf b (by omega) h2

end Go.Ev
end

section
set_option linter.unusedVariables false
set_option linter.unusedSimpArgs false
namespace Go.Ev

variable {X : Cx} {σ : Sig} {n : Nat} {ro : Option Nat} {fr : Fr} {ds : List Df} {h : H} {a : Act} {w : World}

theorem EndQ.here {G : Hp} {e : Exit} (hf : RF σ n fr a.tmps) (hd : DF σ ds a.defers) (ho : Ok X σ G w) : EndQ X n σ G w h ⟨e, fr, ds, h⟩ e a w :=
  ⟨rfl, σ, hf, hd, by rw [app_self]; exact Post.refl ho _⟩

theorem CDoes.skip : CDoes X n ro [.code .skip] fr ds h ⟨.normal, fr, ds, h⟩ :=
  fun σ G a w rm _ hf hd ho _ _ => wpIn_skip (EndQ.here hf hd ho)
theorem CDoes.label {l : Nat} : CDoes X n ro [.code (.label l)] fr ds h ⟨.normal, fr, ds, h⟩ :=
  fun σ G a w rm _ hf hd ho _ _ => wpIn_label (EndQ.here hf hd ho)
theorem CDoes.exit {id : Nat} : CDoes X n ro [.code (.exit id)] fr ds h ⟨.exit id, fr, ds, h⟩ :=
  fun σ G a w rm _ hf hd ho _ _ => wpIn_exit (EndQ.here hf hd ho)
theorem CDoes.goto {l : Nat} : CDoes X n ro [.code (.goto l)] fr ds h ⟨.goto l, fr, ds, h⟩ :=
  fun σ G a w rm _ hf hd ho _ _ => wpIn_goto (EndQ.here hf hd ho)
theorem CDoes.ret : CDoes X n ro [.code .ret] fr ds h ⟨.ret, fr, ds, h⟩ :=
  fun σ G a w rm _ hf hd ho _ _ => wpIn_ret (EndQ.here hf hd ho)

theorem CDoes.seq {x y : Code} {o₁ o₂ : Out} (m1 : Mv h o₁.h) (m2 : Mv o₁.h o₂.h) (hn : o₁.e = .normal) (h1 : CDoes X n ro [.code x] fr ds h o₁) (h2 : CDoes X n ro [.code y] o₁.fr o₁.ds o₁.h o₂) : CDoes X n ro [.code (.seq x y)] fr ds h o₂ := by
  intro σ G a w rm hro hf hd ho he hfr
  refine wpIn_seq ?_
  refine wpIn_mono (RunIn.code.1 (h1 σ G a w rm hro hf hd ho he fun b p q => hfr b p (Nat.lt_of_lt_of_le q m2.next))) ?_
  rintro e a₁ w₁ ⟨rfl, τ, g1, g2, g3⟩
  rw [hn]
  show y.wpIn _ _ _ _ _ _
  refine wpIn_mono (RunIn.code.1 (h2 τ _ a₁ w₁ rm (hro.mono g3.le) g1 g2 g3.ok (ext_app he) (fresh_next g3 m1.next hfr))) ?_
  intro e a₂ w₂ hq
  exact EndQ.next m1 m2 ho he hfr g3 hq
theorem Exit.then_ne {K : Act → World → Prop} {Q : Exit → Act → World → Prop} {e : Exit} (he : e ≠ .normal) : Exit.then K Q e a w = Q e a w := by
  cases e <;> first | rfl | exact absurd rfl he
theorem CDoes.seq_stop {x y : Code} {o : Out} (hn : o.e ≠ .normal) (h1 : CDoes X n ro [.code x] fr ds h o) : CDoes X n ro [.code (.seq x y)] fr ds h o := by
  intro σ G a w rm hro hf hd ho he hfr
  refine wpIn_seq (wpIn_mono (RunIn.code.1 (h1 σ G a w rm hro hf hd ho he hfr)) ?_)
  intro e a₁ w₁ hq
  rw [Exit.then_ne (by rw [hq.1]; exact hn)]
  exact hq
theorem CDoes.cond {c : Operand} {x y : Code} {m : MO} {o : Out} (hm : mo X.ng n c = some m) (b : Bool) (hv : m.val fr = .bool b) (h1 : CDoes X n ro [.code (if b = true then x else y)] fr ds h o) : CDoes X n ro [.code (.cond c x y)] fr ds h o := by
  intro σ G a w rm hro hf hd ho he hfr
  have := mo_V hm (hf.fit (L := fun _ => True) ho.sane) (fun _ _ => trivial)
  rw [hv] at this
  exact wpIn_cond this.bool_inv (RunIn.code.1 (h1 σ G a w rm hro hf hd ho he hfr))
theorem CDoes.block_out {id : Nat} {c : Code} {o : Out} (hid : o.e = .exit id) (h1 : CDoes X n ro [.code c] fr ds h o) : CDoes X n ro [.code (.block id c)] fr ds h ⟨.normal, o.fr, o.ds, o.h⟩ := by
  intro σ G a w rm hro hf hd ho he hfr
  refine wpIn_block (wpIn_mono (RunIn.code.1 (h1 σ G a w rm hro hf hd ho he hfr)) ?_)
  rintro e a₁ w₁ ⟨rfl, τ, g1, g2, g3⟩
  rw [hid]
  simp only [Exit.inBlock, if_true]
  exact ⟨rfl, τ, g1, g2, g3⟩
theorem CDoes.block {id : Nat} {c : Code} {o : Out} (hid : o.e ≠ .exit id) (h1 : CDoes X n ro [.code c] fr ds h o) : CDoes X n ro [.code (.block id c)] fr ds h o := by
  intro σ G a w rm hro hf hd ho he hfr
  refine wpIn_block (wpIn_mono (RunIn.code.1 (h1 σ G a w rm hro hf hd ho he hfr)) ?_)
  rintro e a₁ w₁ ⟨rfl, τ, g1, g2, g3⟩
  cases hoe : o.e with
  | exit id' =>
    have : id' ≠ id := fun e => hid (by rw [hoe, e])
    simp only [Exit.inBlock, if_neg this]
    exact ⟨hoe.symm, τ, g1, g2, g3⟩
  | _ => exact ⟨hoe.symm, τ, g1, g2, g3⟩

/-- the loop's first round -/
theorem CDoes.loop {c : Code} {o : Out} (h1 : CDoes X n ro [.code c, .inLoop c] fr ds h o) : CDoes X n ro [.code (.loop c)] fr ds h o := by
  intro σ G a w rm hro hf hd ho he hfr b k cs hb hF hr
  obtain ⟨e, a', w', hq, harr⟩ := h1 σ G a w rm hro hf hd ho he hfr b k cs hb hF hr
  exact ⟨e, a', w', hq, .of_steps (.one (fenced_calm hF hr rfl) stepR_loop) harr⟩
theorem CDoes.round {c : Code} {o₁ o₂ : Out} (m1 : Mv h o₁.h) (m2 : Mv o₁.h o₂.h) (hn : o₁.e = .normal) (h1 : CDoes X n ro [.code c] fr ds h o₁) (h2 : CDoes X n ro [.code c, .inLoop c] o₁.fr o₁.ds o₁.h o₂) : CDoes X n ro [.code c, .inLoop c] fr ds h o₂ := by
  intro σ G a w rm hro hf hd ho he hfr b k cs hb hF hr
  obtain ⟨e, a₁, w₁, hq, harr⟩ := h1 σ G a w rm hro hf hd ho he (fun b p q => hfr b p (Nat.lt_of_lt_of_le q m2.next)) b (.inLoop c :: k) cs hb hF hr
  obtain ⟨rfl, τ, g1, g2, g3⟩ := hq
  rw [hn] at harr
  obtain ⟨e₂, a₂, w₂, hq₂, harr₂⟩ := h2 τ _ a₁ w₁ rm (hro.mono g3.le) g1 g2 g3.ok (ext_app he) (fresh_next g3 m1.next hfr) b k cs hb hF hr
  exact ⟨e₂, a₂, w₂, EndQ.next m1 m2 ho he hfr g3 hq₂, .of_steps (StepsIn.trans harr (.one (fenced_calm hF hr rfl) stepR_inLoop)) harr₂⟩
theorem CDoes.round_stop {c : Code} {o : Out} (hn : o.e ≠ .normal) (h1 : CDoes X n ro [.code c] fr ds h o) : CDoes X n ro [.code c, .inLoop c] fr ds h o := by
  intro σ G a w rm hro hf hd ho he hfr b k cs hb hF hr
  obtain ⟨e, a₁, w₁, hq, harr⟩ := h1 σ G a w rm hro hf hd ho he hfr b (.inLoop c :: k) cs hb hF hr
  obtain ⟨rfl, rest⟩ := hq
  exact ⟨o.e, a₁, w₁, ⟨rfl, rest⟩, .pass (x := .inLoop c) rfl (fun _ _ => .inl hn) harr⟩

/-! ### a scope -/
theorem stepR_scope {P : Program} {b : Frame} {k : List Item} {cs : List Frame} {c : Code} : step P (lone (b.atR a (.code (.scope c) :: k)) cs w) = .next (lone (b.atR a (.code c :: .inScope c :: k)) cs w) :=
  step_lone_go (by simp [stepG, stepG.exec, Frame.atR])
theorem stepR_inScope {P : Program} {b : Frame} {k : List Item} {cs : List Frame} {c : Code} : step P (lone (b.atR a (.inScope c :: k)) cs w) = .next (lone (b.atR a k) cs w) :=
  step_lone_go (by simp [stepG, stepG.exec, Frame.atR])
theorem CDoes.scope {c : Code} {o : Out} (h1 : CDoes X n ro [.code c, .inScope c] fr ds h o) : CDoes X n ro [.code (.scope c)] fr ds h o := by
  intro σ G a w rm hro hf hd ho he hfr b k cs hb hF hr
  obtain ⟨e, a', w', hq, harr⟩ := h1 σ G a w rm hro hf hd ho he hfr b k cs hb hF hr
  exact ⟨e, a', w', hq, .of_steps (.one (fenced_calm hF hr rfl) stepR_scope) harr⟩
/-- the code in a scope is done -/
theorem CDoes.in_scope {r c : Code} {o : Out} (hn : ∀ l, o.e = .goto l → findLabel c l = none) (h1 : CDoes X n ro [.code r] fr ds h o) : CDoes X n ro [.code r, .inScope c] fr ds h o := by
  intro σ G a w rm hro hf hd ho he hfr b k cs hb hF hr
  obtain ⟨e, a₁, w₁, hq, harr⟩ := h1 σ G a w rm hro hf hd ho he hfr b (.inScope c :: k) cs hb hF hr
  obtain ⟨rfl, rest⟩ := hq
  refine ⟨o.e, a₁, w₁, ⟨rfl, rest⟩, ?_⟩
  cases hoe : o.e with
  | normal => rw [hoe] at harr; exact StepsIn.trans harr (.one (fenced_calm hF hr rfl) stepR_inScope)
  | goto l =>
    rw [hoe] at harr
    have hg : gotoIn l (.inScope c :: k) = gotoIn l k := by simp [gotoIn, hn l hoe]
    exact ⟨fun k' hk => harr.1 k' (by rw [hg]; exact hk), fun hr' hk => harr.2 hr' (by rw [hg]; exact hk)⟩
  | exit id =>
    rw [hoe] at harr
    have hx : exitTo id (.inScope c :: k) = exitTo id k := by simp [exitTo]
    exact ⟨fun k' hk => harr.1 k' (by rw [hx]; exact hk), fun hr' hk => harr.2 hr' (by rw [hx]; exact hk)⟩
  | ret => rw [hoe] at harr; exact harr
  | panic ch => rw [hoe] at harr; exact harr
  | outgrown => rw [hoe] at harr; exact harr
/-- a jump within a scope -/
theorem CDoes.jump {r r' c : Code} {l : Nat} {o₁ o₂ : Out} (m1 : Mv h o₁.h) (m2 : Mv o₁.h o₂.h) (hn : o₁.e = .goto l) (hl : findLabel c l = some r') (h1 : CDoes X n ro [.code r] fr ds h o₁) (h2 : CDoes X n ro [.code r', .inScope c] o₁.fr o₁.ds o₁.h o₂) : CDoes X n ro [.code r, .inScope c] fr ds h o₂ := by
  intro σ G a w rm hro hf hd ho he hfr b k cs hb hF hr
  obtain ⟨e, a₁, w₁, hq, harr⟩ := h1 σ G a w rm hro hf hd ho he (fun b p q => hfr b p (Nat.lt_of_lt_of_le q m2.next)) b (.inScope c :: k) cs hb hF hr
  obtain ⟨rfl, τ, g1, g2, g3⟩ := hq
  rw [hn] at harr
  have hg : gotoIn l (.inScope c :: k) = some (.code r' :: .inScope c :: k) := by simp [gotoIn, hl]
  have s1 := harr.1 _ hg
  obtain ⟨e₂, a₂, w₂, hq₂, harr₂⟩ := h2 τ _ a₁ w₁ rm (hro.mono g3.le) g1 g2 g3.ok (ext_app he) (fresh_next g3 m1.next hfr) b k cs hb hF hr
  exact ⟨e₂, a₂, w₂, EndQ.next m1 m2 ho he hfr g3 hq₂, .of_steps s1 harr₂⟩

end Go.Ev
end

section
set_option linter.unusedVariables false
set_option linter.unusedSimpArgs false
namespace Go.Ev

variable {X : Cx} {σ : Sig} {n : Nat} {ro : Option Nat} {fr : Fr} {ds : List Df} {h : H} {a : Act} {w : World}

/-- a step, and the memories on its two sides -/
structure TurnD (h : H) (s : Stp) (h' : H) : Prop where
  sub : ∀ b x, s.D b = some x → h.get b = some x
  get : h'.get = app s.W h.get
  lo : s.lo = h.next
  hi : s.hi = h'.next
  mv : Mv h h'
  dom : ∀ b, s.W b ≠ none → s.D b ≠ none ∨ (s.lo ≤ b ∧ b < s.hi)
  ts : ∀ b x, s.W b = some (some x) → h.clk ≤ x.ts
theorem Turn.d {h h' : H} {s : Stp} (t : Turn h s h') : TurnD h s h' := ⟨t.sub, t.get, t.lo, t.hi, t.mv, t.dom, fun b x hx => Nat.le_of_eq (t.ts b x hx).symm⟩
/-- a step that may need everything -/
noncomputable def whole (h h' : H) (v : AV) : Stp := ⟨h.get, diff h.get h'.get, h.next, h'.next, v⟩
theorem whole_turn {h h' : H} (m : Mv h h') (v : AV) : TurnD h (whole h h' v) h' :=
  ⟨fun _ _ h => h, (app_diff _ _).symm, rfl, rfl, m, fun b hb => by
    have : h'.get b ≠ h.get b := fun e => hb (by simp [whole, diff, e])
    exact m.dom b this, fun b x hx => by
    simp only [whole, diff] at hx
    split at hx
    · cases hx
    · rename_i hne
      simp only [Option.some.injEq] at hx
      exact m.ts b x hne hx⟩

/-- what an operation does, whichever goes on behind it -/
def OpD (X : Cx) (n : Nat) (ro : Option Nat) (fr : Fr) (o : Oper) (s : Stp) : Prop :=
  ∀ (σ : Sig) (G : Hp) (a : Act) (w : World) (rm : Option Nat) (K : Act → World → Prop) (Q : Exit → Act → World → Prop), Ro σ ro rm → Fit X σ n fr a (Lop o) → Ok X σ G w → Ext G s.D → (∀ b, s.lo ≤ b → b < s.hi → σ.bk b = none) →
    (∀ τ w' x, V τ s.v x → Post X σ G w s.lo s.hi τ (app s.W G) w' → K (a.put o.dst x) w') → o.wpIn (Fw rm) 0 X.P a w K Q
def SaysD (X : Cx) (n : Nat) (ro : Option Nat) (fr : Fr) (o : Oper) (h : H) (k : Kt) : Prop := ∃ s h', TurnD h s h' ∧ k s.v h' = true ∧ OpD X n ro fr o s

theorem semAt_of {o : Oper} {a : Act} {y : Next} {w w' : World} {P : Program} (hy : (∃ x, y = .value x) ∨ y = .skip) (h : (execOp a.eval o).run P w = .ok y w') (rm : Option Nat) : (o.semAt rm a.eval).run P w = .ok y w' := by
  by_cases hd : ∃ c, o.op = .defer c
  · obtain ⟨c, hc⟩ := hd
    exfalso
    simp only [execOp, hc, Sem.run_bind] at h
    cases hr : (resolve a.eval c o.type).run P w with
    | ok d w1 =>
      rw [hr] at h
      simp only [Result.andThen_ok, Sem.run_pure, Result.ok.injEq] at h
      rcases hy with ⟨x, rfl⟩ | rfl <;> exact absurd h.1 (by simp)
    | halt q w1 => rw [hr] at h; cases h
  · rw [Oper.semAt_eq rm a.eval o (fun c hc => hd ⟨c, hc⟩)]
    exact h
theorem Says.d {o : Oper} {k : Kt} (h1 : Says X n fr o h k) : SaysD X n ro fr o h k := by
  obtain ⟨s, h', t, hk, he⟩ := h1
  refine ⟨s, h', t.d, hk, fun σ G a w rm K Q hro hf ho hext hfr hK => ⟨fun _ _ => trivial, ?_⟩⟩
  obtain ⟨x, y, w', τ, hr, hy, hV, hp⟩ := he σ G a w hf ho hext hfr
  have hsem := semAt_of (by rcases hy with rfl | ⟨rfl, _⟩; exact .inl ⟨_, rfl⟩; exact .inr rfl) hr rm
  have hw : (Fw rm).round = rm := rfl
  rw [hw, hsem]
  rcases hy with rfl | ⟨rfl, rfl⟩
  · exact hK τ w' x hV hp
  · exact hK τ w' undef hV hp

/-! ### calls -/
def retQ (X : Cx) (σ : Sig) (G : Hp) (w : World) (h : H) (v : AV) (h' : H) : Ending → World → Prop := fun e w' => match e with
  | .returned x => ∃ τ, V τ v x ∧ Post X σ G w h.next h'.next τ (app (diff h.get h'.get) G) w'
  | _ => False
def CallD (X : Cx) (f : Nat) (l : AV) (h : H) (v : AV) (h' : H) : Prop :=
  ∀ (σ : Sig) (G : Hp) (w : World) (vs : Array Value), VL σ l vs.toList → Ok X σ G w → Ext G h.get → (∀ b, h.next ≤ b → b < h'.next → σ.bk b = none) →
    (callFunc f vs).run X.P w = .ok (.enter f vs) w ∧ CallsIn Fence.wide 0 X.P f vs w (retQ X σ G w h v h')
def RoundD (X : Cx) (b : Nat) (l : AV) (h : H) (v : AV) (h' : H) : Prop :=
  ∀ (σ : Sig) (G : Hp) (w : World) (vs : Array Value) (B : Bk), σ.bk b = some B → VL σ l vs.toList → Ok X σ G w → Ext G h.get → (∀ b, h.next ≤ b → b < h'.next → σ.bk b = none) →
    ∃ f tmps assign body, (Instr.yield B.r vs).run X.P w = .ok (.round B.r f tmps assign body) w ∧ RoundIn Fence.wide 0 X.P B.r f tmps assign body w (retQ X σ G w h v h')
/-- a deferred call, at the end of a function that no panic ends -/
def DefD (X : Cx) (f : Nat) (l : AV) (h : H) (h' : H) : Prop :=
  ∀ (σ : Sig) (G : Hp) (w : World) (vs : Array Value), VL σ l vs.toList → Ok X σ G w → Ext G h.get → (∀ b, h.next ≤ b → b < h'.next → σ.bk b = none) →
    (callFunc f vs).run X.P w = .ok (.enter f vs) w ∧ CallsDIn Fence.wide 0 X.P f vs .returning w fun e u w' => match e with
      | .returned _ => u = .returning ∧ ∃ τ, Post X σ G w h.next h'.next τ (app (diff h.get h'.get) G) w'
      | _ => False
structure ClOK (X : Cx) (c : Cl) : Prop where
  d : ∀ f l h k, c.d f l h k = true → ∃ h', Mv h h' ∧ k h' = true ∧ DefD X f l h h'
  f : ∀ f l h k, c.f f l h k = true → ∃ v h', Mv h h' ∧ k v h' = true ∧ CallD X f l h v h'
  y : ∀ b l h k, c.y b l h k = true → ∃ v h', Mv h h' ∧ k v h' = true ∧ RoundD X b l h v h'

theorem upon_enter {o : Oper} {h' : H} {v : AV} {G : Hp} {rm : Option Nat} {K : Act → World → Prop} {Q : Exit → Act → World → Prop} {f : FuncId} {vs : Array Value} (hc : CallsIn Fence.wide 0 X.P f vs w (retQ X σ G w h v h'))
    (hK : ∀ τ w' x, V τ v x → Post X σ G w h.next h'.next τ (app (diff h.get h'.get) G) w' → K (a.put o.dst x) w') : o.uponIn (Fw rm) 0 X.P a K Q (.ok (.enter f vs) w) := by
  rw [Oper.uponIn_enter]
  refine ⟨fun h => (by cases h), ?_⟩
  have : CallsIn (Fw rm) (0 - 1) X.P f vs w (retQ X σ G w h v h') := hc
  refine CallsIn.mono this fun e w' he => ?_
  cases e with
  | returned x => obtain ⟨τ, h1, h2⟩ := he; exact hK τ w' x h1 h2
  | panicked c => exact he.elim
  | outgrown => exact he.elim
theorem upon_round {o : Oper} {h' : H} {v : AV} {G : Hp} {rm : Option Nat} {K : Act → World → Prop} {Q : Exit → Act → World → Prop} {l : Nat} {f : FuncId} {tmps : Array Value} {x y : Code} (hc : RoundIn Fence.wide 0 X.P l f tmps x y w (retQ X σ G w h v h'))
    (hK : ∀ τ w' x, V τ v x → Post X σ G w h.next h'.next τ (app (diff h.get h'.get) G) w' → K (a.put o.dst x) w') : o.uponIn (Fw rm) 0 X.P a K Q (.ok (.round l f tmps x y) w) := by
  rw [Oper.uponIn_round]
  refine ⟨fun h => (by cases h), ?_⟩
  have : RoundIn (Fw rm) (0 - 1) X.P l f tmps x y w (retQ X σ G w h v h') := hc
  refine RoundIn.mono this fun e w' he => ?_
  cases e with
  | returned x => obtain ⟨τ, h1, h2⟩ := he; exact hK τ w' x h1 h2
  | panicked c => exact he.elim
  | outgrown => exact he.elim

theorem call_sem {o : Oper} {c : Call} (ho : o.op = .call c) (rm : Option Nat) (ρ : Operand → Value) : o.semAt rm ρ = (do let d ← resolve ρ c o.type; invoke d.target d.args) := by
  rw [Oper.semAt_eq rm ρ o (fun c' h => by rw [ho] at h; cases h)]
  simp only [execOp, ho]

theorem opCall_says {cl : Cl} (hcl : ClOK X cl) {o : Oper} {c : Call} {f : FuncId} {ms : List MO} {k : Kt} (ho : o.op = .call c) (hc : c.callee = .value (.func f)) (hms : mos X.ng n c.args.toList = some ms) (hk : opCall cl f ms fr h k = true) : SaysD X n ro fr o h k := by
  unfold opCall at hk
  rw [rowK_eq] at hk
  obtain ⟨v, h', m, hk, hD⟩ := hcl.f _ _ _ _ hk
  refine ⟨whole h h' v, h', whole_turn m v, hk, fun σ G a w rm K Q hro hf hok hext hfr hK => ⟨fun _ _ => trivial, ?_⟩⟩
  have hv := mos_VL' hms hf fun x hx => lop (by rw [ho]; simp [Op.operands, Call.operands, hx])
  obtain ⟨h1, h2⟩ := hD σ G w _ hv hok hext hfr
  have hw : (Fw rm).round = rm := rfl
  rw [hw, call_sem ho, run_call_fn hc, h1]
  exact upon_enter h2 hK

/-- a function's value, called -/
theorem callV_sound {cl : Cl} (hcl : ClOK X cl) {v l : AV} {k : Kt} (hk : callV cl v l h k = true) : ∃ r h', Mv h h' ∧ k r h' = true ∧
    ∀ (σ : Sig) (G : Hp) (w : World) (u : Value) (vs : Array Value), V σ v u → VL σ l vs.toList → Ok X σ G w → Ext G h.get → (∀ b, h.next ≤ b → b < h'.next → σ.bk b = none) →
      ∀ (o : Oper) (a : Act) (rm : Option Nat) (K : Act → World → Prop) (Q : Exit → Act → World → Prop), (∀ τ w' x, V τ r x → Post X σ G w h.next h'.next τ (app (diff h.get h'.get) G) w' → K (a.put o.dst x) w') →
        o.uponIn (Fw rm) 0 X.P a K Q ((do let d ← Deferred.ofValue u vs; invoke d.target d.args : Sem Next).run X.P w) := by
  unfold callV at hk
  split at hk
  · rename_i f p q
    have hk := rappK_inv (m := q) (a := l) (k := fun l => rappK p l fun l => cl.f f l h k) hk
    have hk := rappK_inv (m := l.app q) (a := p) (k := fun l => cl.f f l h k) hk
    obtain ⟨r, h', m, hk, hD⟩ := hcl.f _ _ _ _ hk
    refine ⟨r, h', m, hk, fun σ G w u vs hu hv hok hext hfr o a rm K Q hK => ?_⟩
    obtain ⟨ps, qs, rfl, hp, hq⟩ := (hu : ∃ ps qs, _)
    have hrow : VL σ (p.app (l.app q)) ((ps ++ vs) ++ qs).toList := by
      have := VL.app (VL.app hq hv) hp
      simpa [List.append_assoc] using this
    obtain ⟨h1, h2⟩ := hD σ G w _ hrow hok hext hfr
    have e : (do let d ← Deferred.ofValue (.func (.func f) ps qs) vs; invoke d.target d.args : Sem Next).run X.P w = (callFunc f ((ps ++ vs) ++ qs)).run X.P w := by
      simp only [Deferred.ofValue, Sem.run_bind, Sem.run_pure, Result.andThen_ok, invoke]
    rw [e, h1]
    exact upon_enter h2 hK
  · rename_i b
    obtain ⟨r, h', m, hk, hD⟩ := hcl.y _ _ _ _ hk
    refine ⟨r, h', m, hk, fun σ G w u vs hu hv hok hext hfr o a rm K Q hK => ?_⟩
    obtain ⟨B, hB, rfl⟩ := (hu : ∃ x, _)
    obtain ⟨f, tmps, x, y, h1, h2⟩ := hD σ G w vs B hB hv hok hext hfr
    have e : (do let d ← Deferred.ofValue (.func (.yield B.r) #[] #[]) vs; invoke d.target d.args : Sem Next).run X.P w = (Instr.yield B.r vs).run X.P w := by
      simp only [Deferred.ofValue, Sem.run_bind, Sem.run_pure, Result.andThen_ok, invoke, Array.empty_append]
    rw [e, h1]
    exact upon_round h2 hK
  · cases hk
theorem opCallv_says {cl : Cl} (hcl : ClOK X cl) {o : Oper} {c : Call} {x : Operand} {mx : MO} {ms : List MO} {k : Kt} (ho : o.op = .call c) (hc : c.callee = .value x) (hx : mo X.ng n x = some mx) (hms : mos X.ng n c.args.toList = some ms) (hk : opCallv cl mx ms fr h k = true) : SaysD X n ro fr o h k := by
  unfold opCallv at hk
  rw [MO.getK_eq, rowK_eq] at hk
  obtain ⟨r, h', m, hk, hD⟩ := callV_sound hcl hk
  refine ⟨whole h h' r, h', whole_turn m r, hk, fun σ G a w rm K Q hro hf hok hext hfr hK => ⟨fun _ _ => trivial, ?_⟩⟩
  have hv := mos_VL' hms hf fun x hx => lop (by rw [ho]; simp [Op.operands, Call.operands, hx])
  have hu := mo_V hx hf (lop (by rw [ho]; simp [Op.operands, Call.operands, hc]))
  have hw : (Fw rm).round = rm := rfl
  have := hD σ G w _ _ hu hv hok hext hfr o a rm K Q hK
  rw [hw, call_sem ho]
  have e : (do let d ← resolve a.eval c o.type; invoke d.target d.args : Sem Next).run X.P w = (do let d ← Deferred.ofValue (a.eval x) (c.args.map a.eval); invoke d.target d.args : Sem Next).run X.P w := by
    simp only [resolve, hc]
  rw [e]
  exact this

theorem findT_inv {t : Nat} {k : Nat → Nat → Bool} : ∀ {tb : List (Nat × Nat × Nat)}, findT tb t k = true → ∃ f q, (t, f, q) ∈ tb ∧ k f q = true
  | [], h => by cases h
  | p :: tb, h => by
    change sel (Nat.beq p.1 t) (k p.2.1 p.2.2) (findT tb t k) = true at h
    rcases sel_eq h with ⟨h1, h4⟩ | ⟨_, h4⟩
    · rw [beq_true] at h1
      subst h1
      exact ⟨p.2.1, p.2.2, List.mem_cons_self, h4⟩
    · obtain ⟨f, q, h2, h3⟩ := findT_inv h4
      exact ⟨f, q, List.mem_cons_of_mem _ h2, h3⟩
theorem recvK_inv {q : Nat} {x : AV} {k : AV → Bool} (h : recvK q x k = true) : ∃ y, k y = true ∧ ∀ {σ : Sig} {u : Value}, V σ x u → ∃ v, recvOf q v u ∧ V σ y v := by
  unfold recvK at h
  rcases sel_eq h with ⟨h1, h2⟩ | ⟨h1, h2⟩
  · have e := Nat.eq_of_beq_eq_true h1
    exact ⟨x, h2, fun hu => ⟨_, .inl ⟨e, rfl⟩, hu⟩⟩
  · split at h2
    · rename_i y l
      obtain ⟨h2, _⟩ := rlenK_inv h2
      obtain ⟨h3, h2⟩ := chk_eq h2
      have h3 := Nat.eq_of_beq_eq_true h3
      refine ⟨y, h2, fun hu => ?_⟩
      obtain ⟨cs, rfl, hc⟩ := hu.agg_inv
      obtain ⟨v, us, e, g1, g2⟩ := hc.cons_inv
      refine ⟨v, .inr ⟨us, ?_, ?_⟩, g1⟩
      · rw [g2.len]; omega
      · congr 1
        apply Array.toList_inj.1
        rw [e]
    · cases h2
theorem opInv_says {cl : Cl} (hcl : ClOK X cl) {o : Oper} {c : Call} {x : Operand} {name : String} {mx : MO} {ms : List MO} {k : Kt} (ho : o.op = .call c) (hc : c.callee = .invoke x name) (hx : mo X.ng n x = some mx) (hms : mos X.ng n c.args.toList = some ms) (hk : opInv cl mx (X.E.mt name) ms fr h k = true) : SaysD X n ro fr o h k := by
  unfold opInv at hk
  rw [MO.getK_eq, rowK_eq] at hk
  unfold callI at hk
  split at hk
  · rename_i t y hy
    obtain ⟨f, q, hmem, hk⟩ := findT_inv hk
    obtain ⟨y', hk, hrecv⟩ := recvK_inv hk
    obtain ⟨v, h', m, hk, hD⟩ := hcl.f _ _ _ _ hk
    refine ⟨whole h h' v, h', whole_turn m v, hk, fun σ G a w rm K Q hro hf hok hext hfr hK => ⟨fun _ _ => trivial, ?_⟩⟩
    have hv := mos_VL' hms hf fun x hx => lop (by rw [ho]; simp [Op.operands, Call.operands, hx])
    have hu := mo_V hx hf (lop (by rw [ho]; simp [Op.operands, Call.operands, hc]))
    rw [hy] at hu
    obtain ⟨u0, he, hu0⟩ := (hu : ∃ u, _)
    obtain ⟨u, hrec, hu⟩ := hrecv hu0
    have hrow : VL σ (.cons y' (rowV fr ms)) (#[u] ++ c.args.map a.eval).toList := by
      have := VL.cons hu hv
      simpa using this
    obtain ⟨h1, h2⟩ := hD σ G w _ hrow hok hext hfr
    obtain ⟨hmt, _⟩ := X.ok.mt name t f q hmem
    have hmt := hmt u u0 w hrec
    have hw : (Fw rm).round = rm := rfl
    rw [hw, call_sem ho]
    have e : (do let d ← resolve a.eval c o.type; invoke d.target d.args : Sem Next).run X.P w = .ok (.enter f (#[u] ++ c.args.map a.eval)) w := by
      simp only [resolve, hc, Sem.run_bind, Sem.run_pure, Result.andThen_ok, invoke, he]
      have e1 : (#[Value.iface t u0] ++ c.args.map a.eval)[0]? = some (.iface t u0) := by rw [Array.getElem?_append_left (by simp)]; rfl
      have e2 : (#[Value.iface t u0] ++ c.args.map a.eval).extract 1 (#[Value.iface t u0] ++ c.args.map a.eval).size = c.args.map a.eval := by
        apply Array.toList_inj.1; simp
        exact List.take_of_length_le (by simp)
      simp only [e1, e2, callMethod, Sem.run_bind, run_program, Result.andThen_ok, hmt]
      exact h1
    rw [e]
    exact upon_enter h2 hK
  · cases hk

theorem opK_saysD {cl : Cl} (hcl : ClOK X cl) {o : Oper} {m : MOp} {k : Kt} (hc : cop X.E X.ng n o = some m) (hco : m.isCall = true → isCallOp o.op = true) (hk : opK X.fc cl m fr h k = true) : SaysD X n ro fr o h k := by
  by_cases hn : m.isCall = false
  · exact (opK_says hc hn hk).d
  · have hn : m.isCall = true := by simpa using hn
    have hop := hco hn
    cases ho : o.op with
    | call c =>
      have hcc : ccall X.E X.ng n c = some m := by simpa only [cop, ho] using hc
      unfold ccall at hcc
      split at hcc
      · exfalso
        unfold cbuiltin at hcc
        split at hcc <;> (try simp only [Option.bind_eq_bind, Option.bind_eq_some_iff, Option.pure_def, Option.some.injEq] at hcc)
        · obtain ⟨_, _, _, _, hcc⟩ := hcc
          split at hcc <;> (try simp only [Option.bind_eq_some_iff, Option.some.injEq] at hcc)
          · obtain ⟨_, _, rfl⟩ := hcc; cases hn
          · obtain ⟨_, _, rfl⟩ := hcc; cases hn
          · obtain ⟨_, _, rfl⟩ := hcc; cases hn
          · cases hcc
        · obtain ⟨_, _, _, _, hcc⟩ := hcc
          split at hcc
          · simp only [Option.bind_eq_some_iff, Option.some.injEq] at hcc
            obtain ⟨_, _, rfl⟩ := hcc; cases hn
          · cases hcc
        · obtain ⟨_, _, _, _, hcc⟩ := hcc
          split at hcc
          · simp only [Option.bind_eq_some_iff] at hcc
            obtain ⟨_, _, _, _, _, _, _, _, hcc⟩ := hcc
            split at hcc
            · split at hcc
              · simp only [Option.bind_eq_some_iff, Option.some.injEq] at hcc
                obtain ⟨_, _, _, _, rfl⟩ := hcc; cases hn
              · cases hcc
            · split at hcc
              · simp only [Option.bind_eq_some_iff, Option.some.injEq] at hcc
                obtain ⟨_, _, _, _, rfl⟩ := hcc; cases hn
              · cases hcc
            · cases hcc
          · cases hcc
        · obtain ⟨_, _, _, _, rfl⟩ := hcc; cases hn
        · obtain ⟨_, _, _, _, rfl⟩ := hcc; cases hn
        · subst hcc; cases hn
        · obtain ⟨_, _, _, _, hcc⟩ := hcc
          split at hcc
          · simp only [Option.bind_eq_some_iff, Option.some.injEq] at hcc
            obtain ⟨_, _, _, _, _, _, rfl⟩ := hcc; cases hn
          · cases hcc
        · obtain ⟨_, _, rfl⟩ := hcc; cases hn
        · obtain ⟨_, _, _, _, hcc⟩ := hcc
          split at hcc
          · simp only [Option.bind_eq_some_iff] at hcc
            obtain ⟨_, _, hcc⟩ := hcc
            split at hcc
            · simp only [Option.bind_eq_some_iff, Option.some.injEq] at hcc
              obtain ⟨_, _, _, _, rfl⟩ := hcc; cases hn
            · cases hcc
          · cases hcc
        · cases hcc
      · rename_i f hf
        split at hcc
        · exfalso
          split at hcc
          · simp only [Option.bind_eq_bind, Option.bind_eq_some_iff, Option.pure_def] at hcc
            obtain ⟨d, hd, hcc⟩ := hcc
            split at hcc
            · simp only [Option.bind_eq_some_iff, Option.some.injEq] at hcc
              obtain ⟨mx, hx, rfl⟩ := hcc; cases hn
            · cases hcc
          · cases hcc
        · simp only [Option.bind_eq_bind, Option.bind_eq_some_iff, Option.pure_def] at hcc
          obtain ⟨q, hq, l, hl, hcc⟩ := hcc
          split at hcc
          · cases hcc; exact opCall_says hcl ho hf hl hk
          · cases hcc; cases hn
      · rename_i x _ hx
        simp only [Option.bind_eq_bind, Option.bind_eq_some_iff, Option.pure_def, Option.some.injEq] at hcc
        obtain ⟨mx, h1, l, hl, rfl⟩ := hcc
        exact opCallv_says hcl ho hx h1 hl hk
      · rename_i r name hr
        simp only [Option.bind_eq_bind, Option.bind_eq_some_iff, Option.pure_def, Option.some.injEq] at hcc
        obtain ⟨mx, h1, l, hl, rfl⟩ := hcc
        exact opInv_says hcl ho hr h1 hl hk
    | _ => rw [ho] at hop; cases hop

end Go.Ev
end

section
set_option linter.unusedVariables false
set_option linter.unusedSimpArgs false
namespace Go.Ev

variable {X : Cx} {σ : Sig} {n : Nat} {ro : Option Nat} {fr : Fr} {ds : List Df} {h : H} {a : Act} {w : World}

/-- nothing: the value of what has not been set -/
def nothing : AV := .tup .nil
theorem nothing_V : V σ nothing undef := ⟨#[], rfl, rfl⟩

/-! ### where a value is put; whether an operation is wanted -/
noncomputable def gK (g : MG) (fr : Fr) (yes no : Bool) : Bool :=
  MG.rec (motive := fun _ => Bool) yes (fun s want => F3.getK s fr fun a => match a with | .bool b => sel b (sel want yes no) (sel want no yes) | .tup _ => no | _ => false) g
noncomputable def putK (d : MD) (fr : Fr) (v : AV) (k : Fr → Bool) : Bool := MD.rec (motive := fun _ => Bool) (k fr) (fun s => F3.setK s fr v k) d
def MD.put (d : MD) (fr : Fr) (v : AV) : Fr := match d with | .none => fr | .some s => F3.put fr s v
theorem putK_eq (d : MD) (fr : Fr) (v : AV) (k : Fr → Bool) : putK d fr v k = k (d.put fr v) := by
  cases d with
  | none => rfl
  | some s => exact F3.setK_eq s fr v k

theorem sl_inv {t : Tmp} {s : Sl} (h : sl n t = some s) : t < n ∧ n ≤ 343 ∧ s = slot t := by
  unfold sl at h
  split at h
  · rename_i h1; cases h; exact ⟨h1.1, h1.2, rfl⟩
  · cases h
theorem cdst_inv {dst : Option Tmp} {d : MD} (h : cdst n dst = some d) : (dst = none ∧ d = .none) ∨ ∃ t, dst = some t ∧ t < n ∧ n ≤ 343 ∧ d = .some (slot t) := by
  cases dst with
  | none => cases h; exact .inl ⟨rfl, rfl⟩
  | some t =>
    simp only [cdst, Option.map_eq_some_iff] at h
    obtain ⟨s, h1, rfl⟩ := h
    obtain ⟨h2, h3, rfl⟩ := sl_inv h1
    exact .inr ⟨t, rfl, h2, h3, rfl⟩
theorem RF.put {dst : Option Tmp} {d : MD} (h : cdst n dst = some d) (hf : RF σ n fr a.tmps) {v : AV} {x : Value} (hv : V σ v x) : RF σ n (d.put fr v) (a.put dst x).tmps := by
  rcases cdst_inv h with ⟨rfl, rfl⟩ | ⟨t, rfl, h1, h2, rfl⟩
  · exact hf
  · refine ⟨by simp [Act.put, hf.size], fun i hi => ?_⟩
    have hi' : i < a.tmps.size := by simpa [Act.put] using hi
    have hin : i < n := by rw [← hf.size]; exact hi'
    simp only [MD.put, F3.at_put, Act.put]
    rw [Array.getElem_setIfInBounds hi']
    by_cases e : t = i
    · subst e; simp; exact hv
    · have h3 : (t : Nat) < 343 := Nat.lt_of_lt_of_le h1 h2
      have : Ev.slot i ≠ Ev.slot t := fun e' => e (slot_inj (by omega) h3 e').symm
      rw [if_neg this, if_neg e]
      exact hf.all i hi'
theorem put_defers {dst : Option Tmp} {x : Value} : (a.put dst x).defers = a.defers := by cases dst <;> rfl

/-- the temporaries that an operation looks at, its guard's too -/
def Looks (ops : Array Oper) (o : Oper) (t : Tmp) : Prop := t ∈ o.looksAt ops
theorem looks_op {ops : Array Oper} {o : Oper} {t : Tmp} (h : Lop o t) : Looks ops o t := by
  unfold Looks Oper.looksAt
  refine List.mem_append_left _ (List.mem_filterMap.2 ⟨.tmp t, ?_, rfl⟩)
  have : Operand.tmp t ∈ o.op.operands := h
  simpa using this

/-- one operation of a region, wanted or not -/
def OpJ (X : Cx) (n : Nat) (ro : Option Nat) (ops : Array Oper) (j : Nat) (o : Oper) (fr : Fr) (s : Stp) : Prop :=
  ∀ (σ : Sig) (G : Hp) (a : Act) (w : World) (rm : Option Nat) (K : Act → World → Prop) (Q : Exit → Act → World → Prop), Ro σ ro rm → Fit X σ n fr a (Looks ops o) → a.tmps.size = n → Ok X σ G w → Ext G s.D → (∀ b, s.lo ≤ b → b < s.hi → σ.bk b = none) →
    (∀ τ w' x, V τ s.v x → Post X σ G w s.lo s.hi τ (app s.W G) w' → K (a.put o.dst x) w') → wpOpIn (Fw rm) 0 X.P ops Q j K a w

noncomputable def evOp (fc : List Fact) (cl : Cl) (m : MOper) (fr : Fr) (h : H) (k : Kt) : Bool :=
  MOper.rec (motive := fun _ => Bool) (fun dst op g => gK g fr (opK fc cl op fr h k) (k nothing h)) m
def MOper.dst : MOper → MD
  | .mk d _ _ => d
theorem evOp_inv {cl : Cl} (hcl : ClOK X cl) {ops : Array Oper} {j : Nat} {o : Oper} {m : MOper} {k : Kt} (ho : ops[j]? = some o) (hc : coper X.E X.ng n ops o = some m) (hk : evOp X.fc cl m fr h k = true) :
    cdst n o.dst = some m.dst ∧ ∃ s h', TurnD h s h' ∧ k s.v h' = true ∧ OpJ X n ro ops j o fr s := by
  unfold coper at hc
  split at hc
  · rename_i d op g h1 h2 h3
    split at hc
    · rename_i hcall
      cases hc
      refine ⟨h1, ?_⟩
      change gK g fr (opK X.fc cl op fr h k) (k nothing h) = true at hk
      have hcall : op.isCall = true → isCallOp o.op = true := fun e => by
        simp only [MOp.fits, Bool.and_eq_true] at hcall
        simpa [e] using hcall.1
      -- wanted
      have yes : opK X.fc cl op fr h k = true → (∀ (σ : Sig) (a : Act), Fit X σ n fr a (Looks ops o) → a.tmps.size = n → Region.wanted o (yielded ops a.tmps) = true) → ∃ s h', TurnD h s h' ∧ k s.v h' = true ∧ OpJ X n ro ops j o fr s := by
        intro hk hw
        obtain ⟨s, h', t, hk, hD⟩ := opK_saysD (ro := ro) hcl h2 hcall hk
        refine ⟨s, h', t, hk, fun σ G a w rm K Q hro hf hsz hok hext hfr hK => ?_⟩
        unfold wpOpIn
        simp only [ho, hw σ a hf hsz, if_true]
        exact hD σ G a w rm K Q hro (hf.weak fun t ht => looks_op ht) hok hext hfr hK
      -- not wanted
      have no : k nothing h = true → (∀ (σ : Sig) (a : Act), Fit X σ n fr a (Looks ops o) → a.tmps.size = n → Region.wanted o (yielded ops a.tmps) = false) → ∃ s h', TurnD h s h' ∧ k s.v h' = true ∧ OpJ X n ro ops j o fr s := by
        intro hk hw
        refine ⟨⟨fun _ => none, noCh, h.next, h.next, nothing⟩, h, ⟨fun _ _ h => (by cases h), (by rw [app_no]), rfl, rfl, Mv.refl _, fun _ h => absurd rfl h, fun _ _ h => (by cases h)⟩, hk, fun σ G a w rm K Q hro hf hsz hok hext hfr hK => ?_⟩
        unfold wpOpIn
        simp only [ho, hw σ a hf hsz, Bool.false_eq_true, if_false]
        exact ⟨fun _ _ => trivial, hK σ w undef nothing_V (Post.refl hok _)⟩
      unfold cguard at h3
      split at h3
      · rename_i hg
        cases h3
        exact yes hk fun σ a _ _ => by simp [Region.wanted, hg]
      · rename_i q want hg
        split at h3
        · rename_i t ht
          simp only [Option.map_eq_some_iff] at h3
          obtain ⟨s, h4, rfl⟩ := h3
          obtain ⟨h5, h6, rfl⟩ := sl_inv h4
          have lk : Looks ops o t := by
            unfold Looks Oper.looksAt
            exact List.mem_append_right _ (by simp [hg, ht])
          have val : ∀ (σ : Sig) (a : Act), Fit X σ n fr a (Looks ops o) → a.tmps.size = n → ∃ x, a.tmps[t]? = some x ∧ V σ (F3.at fr (slot t)) x := fun σ a hf hsz => by
            have hlt : t < a.tmps.size := by rw [hsz]; exact h5
            refine ⟨a.tmps[t], by simp [hlt], ?_⟩
            have := hf.slot t lk h5
            simpa [Array.getD, hlt] using this
          change F3.getK (slot t) fr (fun a => match a with | .bool b => sel b (sel want (opK X.fc cl op fr h k) (k nothing h)) (sel want (k nothing h) (opK X.fc cl op fr h k)) | .tup _ => k nothing h | _ => false) = true at hk
          rw [F3.getK_eq] at hk
          split at hk
          · rename_i b hb
            have yl : ∀ (σ : Sig) (a : Act), Fit X σ n fr a (Looks ops o) → a.tmps.size = n → Region.wanted o (yielded ops a.tmps) = (b == want) := fun σ a hf hsz => by
              obtain ⟨x, h7, h8⟩ := val σ a hf hsz
              rw [hb] at h8
              cases h8.bool_inv
              simp [Region.wanted, hg, yielded, ht, h7]
            rcases sel_eq hk with ⟨e1, hk1⟩ | ⟨e1, hk1⟩
            · rcases sel_eq hk1 with ⟨e2, hk2⟩ | ⟨e2, hk2⟩
              · exact yes hk2 fun σ a hf hsz => by rw [yl σ a hf hsz, e1, e2]; rfl
              · exact no hk2 fun σ a hf hsz => by rw [yl σ a hf hsz, e1, e2]; rfl
            · rcases sel_eq hk1 with ⟨e2, hk2⟩ | ⟨e2, hk2⟩
              · exact no hk2 fun σ a hf hsz => by rw [yl σ a hf hsz, e1, e2]; rfl
              · exact yes hk2 fun σ a hf hsz => by rw [yl σ a hf hsz, e1, e2]; rfl
          · rename_i l hb
            refine no hk fun σ a hf hsz => ?_
            obtain ⟨x, h7, h8⟩ := val σ a hf hsz
            rw [hb] at h8
            obtain ⟨cs, rfl, _⟩ := h8.tup_inv
            simp [Region.wanted, hg, yielded, ht, h7]
          · cases hk
        · cases h3
    · cases hc
  · cases hc

/-! ### operations one behind the other -/
def OpsDo (X : Cx) (n : Nat) (ro : Option Nat) (ops : Array Oper) (js : List Nat) (fr : Fr) (ds : List Df) (h : H) (o : Out) : Prop :=
  ∀ (σ : Sig) (G : Hp) (a : Act) (w : World) (rm : Option Nat), Ro σ ro rm → RF σ n fr a.tmps → DF σ ds a.defers → Ok X σ G w → Ext G h.get → (∀ b, h.next ≤ b → b < o.h.next → σ.bk b = none) →
    wpOpsIn (Fw rm) 0 X.P ops (EndQ X n σ G w h o) js a w
theorem wpOpsIn_mono {F : Fence} {P : Program} {ops : Array Oper} {Q Q' : Exit → Act → World → Prop} (hq : ∀ e a w, Q e a w → Q' e a w) : ∀ (js : List Nat) (a : Act) (w : World), wpOpsIn F 0 P ops Q js a w → wpOpsIn F 0 P ops Q' js a w := by
  intro js
  induction js with
  | nil => exact fun a w h => hq _ _ _ h
  | cons j js ih =>
    intro a w h
    rw [wpOpsIn_cons] at h ⊢
    unfold wpOpIn at h ⊢
    split
    · rename_i hn; simp only [hn] at h; exact ih _ _ h
    · rename_i o ho
      simp only [ho] at h
      split
      · rename_i hw
        simp only [hw, if_true] at h
        unfold Oper.wpIn at h ⊢
        refine ⟨h.1, ?_⟩
        have h := h.2
        generalize (o.semAt F.round a.eval).run P w = r at h ⊢
        cases r with
        | ok y w' =>
          cases y <;> simp only [Oper.uponIn] at h ⊢ <;> first
            | exact ih _ _ h
            | exact ⟨h.1, CallsIn.mono h.2 (fun e w'' he => by cases e <;> first | exact ih _ _ he | exact hq _ _ _ he | (obtain ⟨a0, w0, h0⟩ := he; exact ⟨a0, w0, hq _ _ _ h0⟩))⟩
            | exact ⟨h.1, RowsIn.mono h.2 (fun _ _ he => ih _ _ he)⟩
            | exact ⟨h.1, RoundIn.mono h.2 (fun e w'' he => by cases e <;> first | exact ih _ _ he | exact hq _ _ _ he | (obtain ⟨a0, w0, h0⟩ := he; exact ⟨a0, w0, hq _ _ _ h0⟩))⟩
        | halt y w' => cases y <;> simp only [Oper.uponIn] at h ⊢ <;> exact hq _ _ _ h
      · rename_i hw
        simp only [hw] at h
        exact ⟨h.1, ih _ _ h.2⟩
theorem OpsDo.nil {ops : Array Oper} : OpsDo X n ro ops [] fr ds h ⟨.normal, fr, ds, h⟩ :=
  fun σ G a w rm _ hf hd ho _ _ => EndQ.here hf hd ho
theorem OpsDo.cons {ops : Array Oper} {j : Nat} {js : List Nat} {o : Oper} {m : MOper} {s : Stp} {h₁ : H} {out : Out} (hd : cdst n o.dst = some m.dst) (t : TurnD h s h₁) (hj : OpJ X n ro ops j o fr s) (m2 : Mv h₁ out.h) (hrest : OpsDo X n ro ops js (m.dst.put fr s.v) ds h₁ out) :
    OpsDo X n ro ops (j :: js) fr ds h out := by
  intro σ G a w rm hro hf hdf hok hext hfr
  rw [wpOpsIn_cons]
  have hfr1 : ∀ b, h.next ≤ b → b < h₁.next → σ.bk b = none := fun b p q => hfr b p (Nat.lt_of_lt_of_le q m2.next)
  refine hj σ G a w rm _ _ hro (hf.fit hok.sane) hf.size hok (fun b x hx => hext b x (t.sub b x hx)) (by rw [t.lo, t.hi]; exact hfr1) fun τ w' x hV hp => ?_
  rw [t.lo, t.hi] at hp
  have eW : app s.W G = app (diff h.get h₁.get) G := by
    have hnone : ∀ b, σ.bk b = none → G b = none := fun b hb => by
      cases hg : G b with
      | none => rfl
      | some x => obtain ⟨B, h1, _⟩ := hok.rel b x hg; rw [hb] at h1; cases h1
    funext b
    unfold app diff
    cases e : s.W b with
    | none =>
      have : h₁.get b = h.get b := by rw [t.get]; unfold app; rw [e]; rfl
      simp [this]
    | some y =>
      have hy : h₁.get b = y := by rw [t.get]; unfold app; rw [e]; rfl
      rw [hy]
      by_cases hb : y = h.get b
      · rw [if_pos hb]
        simp only [Option.getD_some, Option.getD_none]
        cases hx : h.get b with
        | some x => rw [hext b x hx, hb, hx]
        | none =>
          rw [hb, hx]
          rcases t.dom b (by rw [e]; simp) with h1 | ⟨h1, h2⟩
          · exfalso
            cases hd' : s.D b with
            | none => exact h1 hd'
            | some z => rw [t.sub b z hd'] at hx; cases hx
          · exact (hnone b (hfr1 b (by rw [← t.lo]; exact h1) (by rw [← t.hi]; exact h2))).symm
      · rw [if_neg hb]
  rw [eW] at hp
  refine wpOpsIn_mono ?_ _ _ _ (hrest τ _ _ w' rm (hro.mono hp.le) (RF.put hd (hf.mono hp.le) hV) (by rw [put_defers]; exact hdf.mono hp.le) hp.ok (ext_app hext) (fresh_next hp t.mv.next hfr))
  intro e a₂ w₂ hq
  exact EndQ.next t.mv m2 hok hext hfr hp hq

end Go.Ev
end

section
set_option linter.unusedVariables false
set_option linter.unusedSimpArgs false
namespace Go.Ev

variable {X : Cx} {σ : Sig} {n : Nat} {ro : Option Nat} {fr : Fr} {ds : List Df} {h : H} {a : Act} {w : World}

/-! ### what a function hands back -/
noncomputable def res1 (m : MR) (fr : Fr) (h : H) (k : AV → Bool) : Bool :=
  MR.rec (motive := fun _ => Bool) (fun s => F3.getK s fr k) (fun s => F3.getK s fr fun a => onPtr a fun b o => getB h b fun bl => onCells bl.c fun cs _ _ _ _ => AV.nthK o cs k)
    (fun s m => F3.getK s fr fun a => onPtr a fun b o => getB h b fun bl => onCells bl.c fun cs _ _ _ _ => rdropK o cs fun l => rtakeK m l fun l => k (.agg l)) m
noncomputable def resK (ms : List MR) (fr : Fr) (h : H) (k : AV → Bool) : Bool := List.rec (motive := fun _ => (AV → Bool) → Bool) (fun k => k .nil) (fun m _ ih k => res1 m fr h fun v => ih fun r => k (.cons v r)) ms k
noncomputable def oneR (row : AV) (k : AV → Bool) : Bool := match row with | .cons v .nil => k v | _ => k (.tup row)
/-- one result in the model -/
def resOf (tmps : Array Value) : ResultVar → Sem Value
  | .tmp t => pure (tmps.getD t undef)
  | .cell a t => do loadVar t (← asAddr (tmps.getD a undef))
theorem res1_inv {r : ResultVar} {rs : List ResultVar} {m : MR} {ms : List MR} {k : AV → Bool} (hc : cres X.E n (r :: rs) = some (m :: ms)) (hk : res1 m fr h k = true) :
    cres X.E n rs = some ms ∧ ∃ v, k v = true ∧ ∀ (σ : Sig) (G : Hp) (w : World) (tmps : Array Value), RF σ n fr tmps → Ok X σ G w → Ext G h.get → ∃ u, (resOf tmps r).run X.P w = .ok u w ∧ V σ v u := by
  unfold cres at hc
  split at hc
  · rename_i m' ms' h1 h2
    cases hc
    refine ⟨h2, ?_⟩
    have slotV : ∀ (σ : Sig) (tmps : Array Value) (t : Tmp), RF σ n fr tmps → t < n → V σ (F3.at fr (slot t)) (tmps.getD t undef) := fun σ tmps t hf ht => (RF.slot (a := ⟨tmps, []⟩) hf ht)
    cases r with
    | tmp t =>
      simp only [Option.map_eq_some_iff] at h1
      obtain ⟨s, h3, rfl⟩ := h1
      obtain ⟨h4, h5, rfl⟩ := sl_inv h3
      change F3.getK (slot t) fr k = true at hk
      rw [F3.getK_eq] at hk
      exact ⟨_, hk, fun σ G w tmps hf _ _ => ⟨_, rfl, slotV σ tmps t hf h4⟩⟩
    | cell t ty =>
      simp only [Option.bind_eq_bind, Option.bind_eq_some_iff] at h1
      obtain ⟨s, h3, d, hd, h1⟩ := h1
      obtain ⟨h4, h5, rfl⟩ := sl_inv h3
      have ptr : ∀ (σ : Sig) (tmps : Array Value) (b o : Nat), F3.at fr (slot t) = .ptr b o → RF σ n fr tmps → ∃ B, σ.bk b = some B ∧ tmps.getD t undef = .pointer (some ⟨B.r, B.o + o, none⟩) := fun σ tmps b o he hf => by
        have := slotV σ tmps t hf h4
        rw [he] at this
        exact this.ptr_inv
      split at h1
      · rename_i hag
        simp only [Option.bind_eq_some_iff, Option.pure_def, Option.some.injEq] at h1
        obtain ⟨i, hi, rfl⟩ := h1
        change F3.getK (slot t) fr (fun a => onPtr a fun b o => getB h b fun bl => onCells bl.c fun cs _ _ _ _ => rdropK o cs fun l => rtakeK i.size l fun l => k (.agg l)) = true at hk
        rw [F3.getK_eq] at hk
        obtain ⟨b, o, he, hk⟩ := onPtr_inv hk
        obtain ⟨bl, hb, hk⟩ := getB_inv hk
        obtain ⟨cs, el, fz, p, z, hc, hk⟩ := onCells_inv hk
        obtain ⟨g1, hk⟩ := rdropK_inv hk
        obtain ⟨g2, hk⟩ := rtakeK_inv hk
        refine ⟨_, hk, fun σ G w tmps hf ho hext => ?_⟩
        obtain ⟨B, hB, hv⟩ := ptr σ tmps b o he hf
        obtain ⟨B', hB', hr⟩ := ho.rel b bl (hext b bl hb)
        rw [hB] at hB'; cases hB'
        rw [hc] at hr
        obtain ⟨us, q1, q2, q3⟩ := rel_cells hr g1 g2
        have hload := run_loadCells_list (P := X.P) w (⟨B.r, B.o + o, none⟩ : Addr) us q3
        rw [q1] at hload
        refine ⟨.agg us.toArray, ?_, _, rfl, q2⟩
        simp only [resOf, hv, asAddr, Sem.run_bind, Sem.run_pure, Result.andThen_ok, loadVar, run_isAgg hd, hag, if_true, run_size hi, hload]
      · rename_i hag
        simp only [Option.pure_def, Option.some.injEq] at h1
        subst h1
        change F3.getK (slot t) fr (fun a => onPtr a fun b o => getB h b fun bl => onCells bl.c fun cs _ _ _ _ => AV.nthK o cs k) = true at hk
        rw [F3.getK_eq] at hk
        obtain ⟨b, o, he, hk⟩ := onPtr_inv hk
        obtain ⟨bl, hb, hk⟩ := getB_inv hk
        obtain ⟨cs, el, fz, p, z, hc, hk⟩ := onCells_inv hk
        obtain ⟨v, hv0, hk⟩ := AV.nthK_inv hk
        refine ⟨_, hk, fun σ G w tmps hf ho hext => ?_⟩
        obtain ⟨B, hB, hv⟩ := ptr σ tmps b o he hf
        obtain ⟨B', hB', hr⟩ := ho.rel b bl (hext b bl hb)
        rw [hB] at hB'; cases hB'
        rw [hc] at hr
        obtain ⟨u, q1, q2⟩ := rel_cell hr hv0
        refine ⟨u, ?_, q2⟩
        have hag : isAggD d = false := by simpa using hag
        simp only [resOf, hv, asAddr, Sem.run_bind, Sem.run_pure, Result.andThen_ok, loadVar, run_isAgg hd, hag, Bool.false_eq_true, if_false, run_load, q1]
  · cases hc
theorem resK_inv : ∀ {rs : List ResultVar} {ms : List MR} {k : AV → Bool}, cres X.E n rs = some ms → resK ms fr h k = true →
    ∃ row, k row = true ∧ ∀ (σ : Sig) (G : Hp) (w : World) (tmps : Array Value), RF σ n fr tmps → Ok X σ G w → Ext G h.get → ∃ vs, (rs.mapM (resOf tmps)).run X.P w = .ok vs w ∧ VL σ row vs
  | [], ms, k, hc, hk => by
    cases hc
    exact ⟨.nil, hk, fun σ G w tmps _ _ _ => ⟨[], rfl, rfl⟩⟩
  | r :: rs, ms, k, hc, hk => by
    cases ms with
    | nil =>
      unfold cres at hc
      split at hc <;> cases hc
    | cons m ms =>
      change res1 m fr h (fun v => resK ms fr h fun r => k (.cons v r)) = true at hk
      obtain ⟨hc', v, hk, hv⟩ := res1_inv hc hk
      obtain ⟨row, hk, hr⟩ := resK_inv hc' hk
      refine ⟨_, hk, fun σ G w tmps hf ho hext => ?_⟩
      obtain ⟨u, h1, h2⟩ := hv σ G w tmps hf ho hext
      obtain ⟨vs, h3, h4⟩ := hr σ G w tmps hf ho hext
      refine ⟨u :: vs, ?_, VL.cons h2 h4⟩
      simp only [List.mapM_cons, Sem.run_bind, h1, Result.andThen_ok, h3, Sem.run_pure]
theorem oneR_inv {row : AV} {k : AV → Bool} (hk : oneR row k = true) : ∃ v, k v = true ∧ ∀ (σ : Sig) (vs : Array Value), VL σ row vs.toList → V σ v (if h : vs.size = 1 then vs[0] else .tuple vs) := by
  unfold oneR at hk
  split at hk
  · rename_i v
    refine ⟨v, hk, fun σ vs hv => ?_⟩
    obtain ⟨u, us, h1, h2, h3⟩ := hv.cons_inv
    rw [h3.nil_inv] at h1
    have hs : vs.size = 1 := by rw [← Array.length_toList, h1]; rfl
    rw [dif_pos hs]
    have : vs[0] = u := by
      have e : vs.toList[0]? = some u := by rw [h1]; rfl
      rw [Array.getElem?_toList] at e
      obtain ⟨e1, e2⟩ := Array.getElem?_eq_some_iff.1 e
      exact e2
    rw [this]; exact h2
  · rename_i hne
    refine ⟨_, hk, fun σ vs hv => ?_⟩
    have hs : ¬ vs.size = 1 := by
      intro hs
      have hl := hv.len
      rw [Array.length_toList, hs] at hl
      cases row with
      | cons a l =>
        simp only [AV.len] at hl
        obtain ⟨u, us, h1, h2, h3⟩ := hv.cons_inv
        cases l with
        | nil => exact hne a rfl
        | cons b l => simp only [AV.len] at hl; omega
        | _ => exact h3.elim
      | _ => simp [AV.len] at hl
    rw [dif_neg hs]
    exact ⟨vs, rfl, hv⟩
noncomputable def resultsK (ms : List MR) (fr : Fr) (h : H) (k : AV → Bool) : Bool := resK ms fr h fun row => oneR row k
theorem resultsK_inv {fn : Func} {ms : List MR} {k : AV → Bool} (hc : cres X.E n fn.results.toList = some ms) (hk : resultsK ms fr h k = true) :
    ∃ v, k v = true ∧ ∀ (σ : Sig) (G : Hp) (w : World) (tmps : Array Value), RF σ n fr tmps → Ok X σ G w → Ext G h.get → ∃ u, (results fn tmps).run X.P w = .ok u w ∧ V σ v u := by
  obtain ⟨row, hk, hr⟩ := resK_inv hc hk
  obtain ⟨v, hk, hv⟩ := oneR_inv hk
  refine ⟨v, hk, fun σ G w tmps hf ho hext => ?_⟩
  obtain ⟨vs, h1, h2⟩ := hr σ G w tmps hf ho hext
  refine ⟨_, ?_, hv σ vs.toArray h2⟩
  have e : (fn.results.mapM (resOf tmps)).run X.P w = .ok vs.toArray w := by
    rw [Array.mapM_eq_mapM_toList]
    simp only [Sem.run_map, h1, Result.andThen_ok]
  have e2 : results fn tmps = (do let vs ← fn.results.mapM (resOf tmps); pure (if h : vs.size = 1 then vs[0] else .tuple vs)) := by
    unfold results
    congr 1
  rw [e2]
  simp only [Sem.run_bind, e, Result.andThen_ok, Sem.run_pure]

/-! ### a frame at its beginning -/
/-- the first slots -/
def slots : List Sl := [⟨.d0, .d0, .d0⟩, ⟨.d0, .d0, .d1⟩, ⟨.d0, .d0, .d2⟩, ⟨.d0, .d0, .d3⟩, ⟨.d0, .d0, .d4⟩, ⟨.d0, .d0, .d5⟩, ⟨.d0, .d0, .d6⟩, ⟨.d0, .d1, .d0⟩, ⟨.d0, .d1, .d1⟩, ⟨.d0, .d1, .d2⟩, ⟨.d0, .d1, .d3⟩, ⟨.d0, .d1, .d4⟩, ⟨.d0, .d1, .d5⟩, ⟨.d0, .d1, .d6⟩, ⟨.d0, .d2, .d0⟩, ⟨.d0, .d2, .d1⟩, ⟨.d0, .d2, .d2⟩, ⟨.d0, .d2, .d3⟩, ⟨.d0, .d2, .d4⟩, ⟨.d0, .d2, .d5⟩, ⟨.d0, .d2, .d6⟩, ⟨.d0, .d3, .d0⟩, ⟨.d0, .d3, .d1⟩, ⟨.d0, .d3, .d2⟩, ⟨.d0, .d3, .d3⟩, ⟨.d0, .d3, .d4⟩, ⟨.d0, .d3, .d5⟩, ⟨.d0, .d3, .d6⟩, ⟨.d0, .d4, .d0⟩, ⟨.d0, .d4, .d1⟩, ⟨.d0, .d4, .d2⟩, ⟨.d0, .d4, .d3⟩, ⟨.d0, .d4, .d4⟩, ⟨.d0, .d4, .d5⟩, ⟨.d0, .d4, .d6⟩, ⟨.d0, .d5, .d0⟩, ⟨.d0, .d5, .d1⟩, ⟨.d0, .d5, .d2⟩, ⟨.d0, .d5, .d3⟩, ⟨.d0, .d5, .d4⟩, ⟨.d0, .d5, .d5⟩, ⟨.d0, .d5, .d6⟩, ⟨.d0, .d6, .d0⟩, ⟨.d0, .d6, .d1⟩, ⟨.d0, .d6, .d2⟩, ⟨.d0, .d6, .d3⟩, ⟨.d0, .d6, .d4⟩, ⟨.d0, .d6, .d5⟩, ⟨.d0, .d6, .d6⟩]
theorem slots_eq : slots = (List.range' 0 49).map slot := by rfl
noncomputable def argsK (ss : List Sl) : AV → Fr → (Fr → Bool) → Bool :=
  List.rec (motive := fun _ => AV → Fr → (Fr → Bool) → Bool) (fun l fr k => casesRow l (fun _ _ => false) (k fr)) (fun s _ ih l fr k => casesRow l (fun x l => F3.setK s fr x fun fr => ih l fr k) (k fr)) ss
theorem argsK_inv {k : Fr → Bool} : ∀ {m i : Nat} {l : AV} {fr : Fr}, i + m ≤ 343 → argsK ((List.range' i m).map slot) l fr k = true →
    ∃ fr', k fr' = true ∧ l.len ≤ m ∧ (∀ t, t < 343 → ¬ (i ≤ t ∧ t < i + l.len) → F3.at fr' (slot t) = F3.at fr (slot t)) ∧ ∀ j x, l.nth j = some x → F3.at fr' (slot (i + j)) = x := by
  intro m
  induction m with
  | zero =>
    intro i l fr hm hk
    rcases casesRow_inv hk with ⟨x, l', rfl, hk⟩ | ⟨rfl, hk⟩
    · cases hk
    · exact ⟨fr, hk, Nat.le_refl _, fun _ _ _ => rfl, fun j x h => by cases j <;> cases h⟩
  | succ m ih =>
    intro i l fr hm hk
    rw [List.range'_succ, List.map_cons] at hk
    rcases casesRow_inv hk with ⟨x, l', rfl, hk1⟩ | ⟨rfl, hk1⟩
    · rw [F3.setK_eq] at hk1
      obtain ⟨fr', h1, h2, h3, h4⟩ := ih (i := i + 1) (l := l') (fr := F3.put fr (slot i) x) (by omega) hk1
      refine ⟨fr', h1, Nat.succ_le_succ h2, fun t ht hn => ?_, fun j y hj => ?_⟩
      · simp only [AV.len] at hn
        rw [h3 t ht (by omega), F3.at_put, if_neg]
        intro e
        have := slot_inj ht (by omega) e
        omega
      · cases j with
        | zero =>
          simp only [AV.nth, Option.some.injEq] at hj
          subst hj
          rw [Nat.add_zero, h3 i (by omega) (by omega), F3.at_put, if_pos rfl]
        | succ j =>
          simp only [AV.nth] at hj
          rw [show i + (j + 1) = i + 1 + j by omega]
          exact h4 j y hj
    · exact ⟨fr, hk1, Nat.zero_le _, fun _ _ _ => rfl, fun j x h => by cases j <;> cases h⟩
theorem AV.nth_lt {l : AV} : ∀ {j : Nat}, j < l.len → ∃ x, l.nth j = some x := by
  induction l with
  | cons a l _ ih =>
    intro j hj
    cases j with
    | zero => exact ⟨a, rfl⟩
    | succ j => exact ih (Nat.lt_of_succ_lt_succ hj)
  | _ => intro j hj; simp [AV.len] at hj
/-- a function's first frame -/
noncomputable def frameK (n : Nat) (l : AV) (k : Fr → Bool) : Bool := rlenK l 0 fun m => chk (Nat.ble m n) (argsK slots l (F3.all nothing) k)
theorem frameK_inv {l : AV} {k : Fr → Bool} (hn : n ≤ 343) (hk : frameK n l k = true) : ∃ fr, k fr = true ∧ ∀ (σ : Sig) (vs : Array Value), VL σ l vs.toList → RF σ n fr (vs ++ Array.replicate (n - vs.size) undef) := by
  unfold frameK at hk
  obtain ⟨hk, hrow⟩ := rlenK_inv hk
  obtain ⟨h1, hk⟩ := chk_eq hk
  rw [Nat.zero_add, ble_true] at h1
  rw [slots_eq] at hk
  obtain ⟨fr, hk, h2, h3, h4⟩ := argsK_inv (by omega) hk
  refine ⟨fr, hk, fun σ vs hv => ?_⟩
  have hl := hv.len
  rw [Array.length_toList] at hl
  refine ⟨by simp; omega, fun i hi => ?_⟩
  have hin : i < n := by simp at hi; omega
  by_cases e : i < vs.size
  · obtain ⟨x, hx⟩ := AV.nth_lt (l := l) (j := i) (by omega)
    obtain ⟨u, hu, hV⟩ := hv.nth hx
    have := h4 i x hx
    rw [Nat.zero_add] at this
    rw [this, Array.getElem_append_left e]
    rw [Array.getElem?_toList] at hu
    obtain ⟨_, e2⟩ := Array.getElem?_eq_some_iff.1 hu
    rw [e2]; exact hV
  · rw [h3 i (by omega) (by omega), F3.at_all, Array.getElem_append_right (by omega)]
    simp only [Array.getElem_replicate]
    exact nothing_V

end Go.Ev
end

section
set_option linter.unusedVariables false
set_option linter.unusedSimpArgs false
namespace Go.Ev

variable {X : Cx} {σ : Sig} {n : Nat} {ro : Option Nat} {fr : Fr} {ds : List Df} {h : H} {a : Act} {w : World}

/-! ### a function's end -/
noncomputable def onDefd (c : Blk) (k : Bool) : Bool := match c with | .defd true => k | _ => false
theorem onDefd_inv {c : Blk} {k : Bool} (h : onDefd c k = true) : c = .defd true ∧ k = true := by
  unfold onDefd at h
  split at h
  · exact ⟨rfl, h⟩
  · cases h
noncomputable def leaveK (cl : Cl) (res : List MR) (fr : Fr) (ds : List Df) : H → Kt → Bool :=
  List.rec (motive := fun _ => H → Kt → Bool) (fun h k => resultsK res fr h fun v => k v h)
    (fun d _ ih h k => Df.rec (motive := fun _ => Bool) (fun b => getB h b fun bl => chk (!bl.ro) (onDefd bl.c (putB h b (.defd false) fun h => ih h k))) (fun f cap args => rappK args cap fun l => cl.d f l h fun h => ih h k) d) ds
theorem leaveK_inv {cl : Cl} (hcl : ClOK X cl) {fn : Func} {res : List MR} (hres : cres X.E n fn.results.toList = some res) : ∀ {ds : List Df} {h : H} {k : Kt}, leaveK cl res fr ds h k = true →
    ∃ v h', Mv h h' ∧ k v h' = true ∧ ∀ (σ : Sig) (G : Hp) (a : Act) (w : World) (R : Ending → World → Prop), RF σ n fr a.tmps → DF σ ds a.defers → Ok X σ G w → Ext G h.get → (∀ b, h.next ≤ b → b < h'.next → σ.bk b = none) →
      (∀ x τ w', V τ v x → Post X σ G w h.next h'.next τ (app (diff h.get h'.get) G) w' → R (.returned x) w') → LeavesInM Fence.wide 0 X.P fn a.tmps R a.defers .returning w
  | [], h, k, hk => by
    obtain ⟨v, hk, hr⟩ := resultsK_inv hres hk
    refine ⟨v, h, Mv.refl h, hk, fun σ G a w R hf hd ho he hfr hR => ?_⟩
    cases hdef : a.defers with
    | cons d r => rw [hdef] at hd; cases hd
    | nil =>
      obtain ⟨u, h1, h2⟩ := hr σ G w a.tmps hf ho he
      exact ⟨u, h1, hR u σ w h2 (by rw [app_self]; exact Post.refl ho _)⟩
  | .mark b :: ds, h, k, hk => by
    change getB h b (fun bl => chk (!bl.ro) (onDefd bl.c (putB h b (.defd false) fun h => leaveK cl res fr ds h k))) = true at hk
    obtain ⟨bl, hb, hk⟩ := getB_inv hk
    obtain ⟨hro, hk⟩ := chk_eq hk
    obtain ⟨hc, hk⟩ := onDefd_inv hk
    obtain ⟨h1, p1, p2, p3, hk⟩ := putB_inv hk
    obtain ⟨v, h', m, hk, hr⟩ := leaveK_inv hcl hres hk
    have hro : bl.ro = false := by simpa using hro
    have t : TurnD h ⟨dOne b bl, one b (some ⟨h.clk, false, .defd false⟩), h.next, h.next, .top⟩ h1 := by
      refine ⟨dOne_sub hb, p1, rfl, p2.symm, ⟨by omega, by omega, fun c x hne hx => ?_, fun c hne => ?_⟩, fun c hc' => ?_, fun c x hx => ?_⟩
      · rw [p1, app_one] at hne hx
        split at hx
        · cases hx; exact Nat.le_refl _
        · rename_i e; rw [if_neg e] at hne; exact absurd rfl hne
      · rw [p1, app_one] at hne
        split at hne
        · rename_i e; subst e; exact .inl (by rw [hb]; simp)
        · exact absurd rfl hne
      · simp only [one, ne_eq, ite_eq_right_iff, reduceCtorEq, imp_false, Decidable.not_not] at hc'
        subst hc'
        exact .inl (by simp [dOne])
      · simp only [one] at hx
        split at hx
        · cases hx; exact Nat.le_refl _
        · cases hx
    refine ⟨v, h', t.mv.trans m, hk, fun σ G a w R hf hd ho he hfr hR => ?_⟩
    obtain ⟨d, r, hd1, hd2, hd3⟩ := hd
    obtain ⟨B, hB, htar⟩ := hd2
    have hG := he b bl hb
    obtain ⟨B', hB', hrel⟩ := ho.rel b bl hG
    rw [hB] at hB'; cases hB'
    rw [hc] at hrel
    have hrel : w.heap[B.r]? = some (.deferred (some [])) := hrel
    obtain ⟨w', r1, r2, r3⟩ := setObj_only (X := X) (o' := .deferred none) hrel (by simp)
    have hp : Post X σ G w h.next h1.next σ (app (one b (some ⟨h.clk, false, .defd false⟩)) G) w' := by
      rw [p2]
      exact Post.turn ho hG hro rfl hB (show RelC X σ w' B (.defd false) from r2) r3.size r3.oth r3.os r3.tape r3.output _
    have eW : app (one b (some ⟨h.clk, false, .defd false⟩)) G = app (diff h.get h1.get) G := by
      funext c
      rw [app_one]
      unfold app diff
      rw [p1, app_one]
      by_cases e : c = b
      · subst e
        rw [if_pos rfl, if_pos rfl]
        have : ¬ (some (⟨h.clk, false, .defd false⟩ : Bl) = h.get c) := by
          rw [hb]; intro e; simp only [Option.some.injEq] at e
          rw [← e] at hc; cases hc
        rw [if_neg this]; rfl
      · rw [if_neg e, if_neg e, if_pos rfl]; rfl
    rw [eW] at hp
    rw [hd1]
    refine ⟨by simp, .inl ⟨B.r, w', htar, ?_, ?_⟩⟩
    · simp [Instr.takeDeferred, getObj, Sem.run, hrel, r1]
    · have := hr σ _ { a with defers := r } w' R hf hd3 hp.ok (ext_app he) (fresh_next hp t.mv.next hfr) (fun x τ w₂ hV hp2 => hR x τ w₂ hV (by
        have := hp.trans hp2 t.mv.next m.next
        rwa [app_trans t.mv ho he fun b hb hb' => hfr b hb (Nat.lt_of_lt_of_le hb' m.next)] at this))
      exact this
  | .fn f cap args :: ds, h, k, hk => by
    change rappK args cap (fun l => cl.d f l h fun h => leaveK cl res fr ds h k) = true at hk
    have hk := rappK_inv (m := cap) (a := args) (k := fun l => cl.d f l h fun h => leaveK cl res fr ds h k) hk
    obtain ⟨h1, m1, hk, hD⟩ := hcl.d _ _ _ _ hk
    obtain ⟨v, h', m, hk, hr⟩ := leaveK_inv hcl hres hk
    refine ⟨v, h', m1.trans m, hk, fun σ G a w R hf hd ho he hfr hR => ?_⟩
    obtain ⟨d, r, hd1, hd2, hd3⟩ := hd
    obtain ⟨cs, htar, hcap, hargs⟩ := hd2
    have hrow : VL σ (args.app cap) (d.args ++ cs).toList := by
      have := VL.app hcap hargs
      simpa using this
    obtain ⟨e1, e2⟩ := hD σ G w _ hrow ho he fun b hb hb' => hfr b hb (Nat.lt_of_lt_of_le hb' m.next)
    rw [hd1]
    refine ⟨by simp, .inr ⟨fun h => (by cases h), .func f, cs, f, d.args ++ cs, htar, ?_, fun _ _ => trivial, ?_⟩⟩
    · rw [htar]; exact e1
    · refine CallsDIn.mono e2 fun e u w' he' => ?_
      cases e with
      | returned x =>
        obtain ⟨rfl, τ, hp⟩ := he'
        exact hr τ _ { a with defers := r } w' R (hf.mono hp.le) (hd3.mono hp.le) hp.ok (ext_app he) (fresh_next hp m1.next hfr) (fun x τ' w₂ hV hp2 => hR x τ' w₂ hV (by
          have := hp.trans hp2 m1.next m.next
          rwa [app_trans m1 ho he fun b hb hb' => hfr b hb (Nat.lt_of_lt_of_le hb' m.next)] at this))
      | panicked c => exact he'.elim
      | outgrown => exact he'.elim

/-- a function's call, out of what its body does -/
theorem call_of_body {cl : Cl} {f : FuncId} {fn : Func} {c : Code} {l : AV} {h' : H} {v : AV} {o : Out} (hfn : X.P.funcs[f]? = some fn) (hb : fn.body = some c) (hname : fn.name ≠ "runtime.NumGoroutine")
    (hframe : ∀ (σ : Sig) (vs : Array Value), VL σ l vs.toList → RF σ fn.ntmps fr (vs ++ Array.replicate (fn.ntmps - vs.size) undef))
    (hdo : CDoes X fn.ntmps none [.code c] fr [] h o) (hoe : o.e = .normal ∨ o.e = .ret) (m1 : Mv h o.h) (m2 : Mv o.h h')
    (hleave : ∀ (σ : Sig) (G : Hp) (a : Act) (w : World) (R : Ending → World → Prop), RF σ fn.ntmps o.fr a.tmps → DF σ o.ds a.defers → Ok X σ G w → Ext G o.h.get → (∀ b, o.h.next ≤ b → b < h'.next → σ.bk b = none) →
      (∀ x τ w', V τ v x → Post X σ G w o.h.next h'.next τ (app (diff o.h.get h'.get) G) w' → R (.returned x) w') → LeavesInM Fence.wide 0 X.P fn a.tmps R a.defers .returning w) : CallD X f l h v h' := by
  intro σ G w vs hv ho he hfr
  have hbs : fn.body.isNone = false := by rw [hb]; rfl
  refine ⟨?_, ?_⟩
  · simp [callFunc, hfn, hname, hb]
  · refine callsIn_of_wp_marks hfn hb trivial ?_
    have hbody := hdo σ G { tmps := vs ++ Array.replicate (fn.ntmps - vs.size) undef, defers := [] } w none rfl (hframe σ vs hv) rfl ho he (fun b p q => hfr b p (Nat.lt_of_lt_of_le q m2.next))
    refine wpIn_mono (RunIn.code.1 hbody) ?_
    rintro e a' w' ⟨rfl, τ, g1, g2, g3⟩
    have := hleave τ _ a' w' (retQ X σ G w h v h') g1 g2 g3.ok (ext_app he) (fresh_next g3 m1.next hfr) (fun x υ w₂ hV hp => ⟨υ, hV, by
      have := g3.trans hp m1.next m2.next
      rwa [app_trans m1 ho he fun b hb hb' => hfr b hb (Nat.lt_of_lt_of_le hb' m2.next)] at this⟩)
    rcases hoe with hoe | hoe <;> rw [hoe] <;> exact this

end Go.Ev
end

section
set_option linter.unusedVariables false
set_option linter.unusedSimpArgs false
namespace Go.Ev

variable {X : Cx} {σ : Sig} {n : Nat} {ro : Option Nat} {fr : Fr} {ds : List Df} {h : H} {a : Act} {w : World}

/-! ### deferred calls -/
theorem def_of_body {f : FuncId} {fn : Func} {c : Code} {l : AV} {o : Out} (hfn : X.P.funcs[f]? = some fn) (hb : fn.body = some c) (hname : fn.name ≠ "runtime.NumGoroutine")
    (hframe : ∀ (σ : Sig) (vs : Array Value), VL σ l vs.toList → RF σ fn.ntmps fr (vs ++ Array.replicate (fn.ntmps - vs.size) undef))
    (hdo : CDoes X fn.ntmps none [.code c] fr [] h o) (hoe : o.e = .normal ∨ o.e = .ret) (hds : o.ds = [])
    (hres : ∀ (σ : Sig) (G : Hp) (w : World) (tmps : Array Value), RF σ fn.ntmps o.fr tmps → Ok X σ G w → Ext G o.h.get → ∃ u, (results fn tmps).run X.P w = .ok u w) : DefD X f l h o.h := by
  intro σ G w vs hv ho he hfr
  refine ⟨by simp [callFunc, hfn, hname, hb], ?_⟩
  have hbody := hdo σ G { tmps := vs ++ Array.replicate (fn.ntmps - vs.size) undef, defers := [] } w none rfl (hframe σ vs hv) rfl ho he hfr
  refine CallsDIn.mono (callsDIn_of_wp (R := fun e w' => match e with
    | .returned _ => ∃ τ, Post X σ G w h.next o.h.next τ (app (diff h.get o.h.get) G) w'
    | _ => False) hfn hb trivial (wpIn_mono (RunIn.code.1 hbody) ?_)) ?_
  · rintro e a' w' ⟨rfl, τ, g1, g2, g3⟩
    rw [hds] at g2
    obtain ⟨u, hu⟩ := hres τ _ w' a'.tmps g1 g3.ok (ext_app he)
    rcases hoe with hoe | hoe <;> rw [hoe] <;> exact ⟨g2, u, hu, τ, g3⟩
  · rintro e u w' ⟨rfl, h2⟩
    cases e with
    | returned x => exact ⟨rfl, h2⟩
    | panicked c => exact h2
    | outgrown => exact h2

theorem recHead_inv {c c' : Code} {t : Tmp} (h : recHead c = some (t, c')) : ∃ id o cl, c = .seq (.region id #[o] false) c' ∧ o.op = .call cl ∧ o.guard = none ∧ o.dst = some t ∧ cl.callee = .builtin .recover := by
  unfold recHead at h
  split at h
  · rename_i id ops c1
    split at h
    · rename_i o ho
      split at h
      · rename_i cl t' h1 h2 h3
        split at h
        · rename_i h4
          cases h
          have : ops = #[o] := by cases ops; simp at ho; rw [ho]
          subst this
          exact ⟨id, o, cl, rfl, h1, h2, h3, h4⟩
        · cases h
      · cases h
    · cases h
  · cases h
theorem def_of_body_rec {f : FuncId} {fn : Func} {c c' : Code} {t : Tmp} {l : AV} {o : Out} (hfn : X.P.funcs[f]? = some fn) (hb : fn.body = some c) (hname : fn.name ≠ "runtime.NumGoroutine") (hr : recHead c = some (t, c')) (ht : t < fn.ntmps) (hn : fn.ntmps ≤ 343)
    (hframe : ∀ (σ : Sig) (vs : Array Value), VL σ l vs.toList → RF σ fn.ntmps fr (vs ++ Array.replicate (fn.ntmps - vs.size) undef))
    (hdo : CDoes X fn.ntmps none [.code c'] (F3.put fr (slot t) .nili) [] h o) (hoe : o.e = .normal ∨ o.e = .ret) (hds : o.ds = [])
    (hres : ∀ (σ : Sig) (G : Hp) (w : World) (tmps : Array Value), RF σ fn.ntmps o.fr tmps → Ok X σ G w → Ext G o.h.get → ∃ u, (results fn tmps).run X.P w = .ok u w) : DefD X f l h o.h := by
  intro σ G w vs hv ho he hfr
  refine ⟨by simp [callFunc, hfn, hname, hb], ?_⟩
  obtain ⟨id, op, cl, rfl, h1, h2, h3, h4⟩ := recHead_inv hr
  refine callsDIn_of_wpSIn hfn hb trivial fun c₀ cs hmode => ?_
  have hrf : RF σ fn.ntmps (F3.put fr (slot t) .nili) (Act.put { tmps := vs ++ Array.replicate (fn.ntmps - vs.size) undef, defers := [] } op.dst .nilIface).tmps := by
    have hd : cdst fn.ntmps op.dst = some (.some (slot t)) := by
      rw [h3]; simp [cdst, sl, ht, hn]
    exact RF.put hd (a := { tmps := vs ++ Array.replicate (fn.ntmps - vs.size) undef, defers := [] }) (hframe σ vs hv) (show V σ .nili .nilIface from rfl)
  have hbody := hdo σ G (Act.put { tmps := vs ++ Array.replicate (fn.ntmps - vs.size) undef, defers := [] } op.dst .nilIface) w none rfl hrf (by rw [put_defers]; rfl) ho he hfr
  refine wpSIn_seq (wpSIn_region ?_)
  have hrec : recoverD (c₀ :: cs) = none := by simp [recoverD, hmode]
  have hrun : (execOp (Act.eval { tmps := vs ++ Array.replicate (fn.ntmps - vs.size) undef, defers := [] }) op).run X.P w = .ok .recover w := by
    simp only [execOp, h1]
    obtain ⟨q, hq⟩ := run_call_builtin (a := { tmps := vs ++ Array.replicate (fn.ntmps - vs.size) undef, defers := [] }) (ty := op.type) h4 w X.P
    rw [hq]; rfl
  have hw : ∀ y, Region.wanted op y = true := fun y => by simp [Region.wanted, h2]
  show wpOpsSIn _ _ _ _ _ [0] _ _ _
  simp only [wpOpsSIn, List.getElem?_toArray, List.getElem?_cons_zero, hw, if_true, hrun, hrec]
  refine ⟨fun _ _ => trivial, ?_⟩
  show c'.wpSIn _ _ _ _ _ _ _
  refine wpSIn_of_wpIn rfl (wpIn_mono (RunIn.code.1 hbody) ?_)
  rintro e a' w' ⟨rfl, τ, g1, g2, g3⟩
  rw [hds] at g2
  obtain ⟨u, hu⟩ := hres τ _ w' a'.tmps g1 g3.ok (ext_app he)
  have hc0 : ({ c₀ with mode := FrameMode.returning } : Frame) = c₀ := by rw [← hmode]
  rcases hoe with hoe | hoe <;> rw [hoe] <;> exact ⟨g2, .returning, by rw [hc0], u, hu, rfl, τ, g3⟩

end Go.Ev
end

section
set_option linter.unusedVariables false
set_option linter.unusedSimpArgs false
namespace Go.Ev

variable {X : Cx} {σ : Sig} {n : Nat} {ro : Option Nat} {fr : Fr} {ds : List Df} {h : H} {a : Act} {w : World}

/-! ### steps of the memory, one behind the other -/
theorem Post.comp {h h₁ h₂ : H} {τ υ : Sig} {G : Hp} {w₁ w₂ : World} (m1 : Mv h h₁) (m2 : Mv h₁ h₂) (ho : Ok X σ G w) (he : Ext G h.get) (hf : ∀ b, h.next ≤ b → b < h₂.next → σ.bk b = none)
    (hp : Post X σ G w h.next h₁.next τ (app (diff h.get h₁.get) G) w₁) (hq : Post X τ (app (diff h.get h₁.get) G) w₁ h₁.next h₂.next υ (app (diff h₁.get h₂.get) (app (diff h.get h₁.get) G)) w₂) : Post X σ G w h.next h₂.next υ (app (diff h.get h₂.get) G) w₂ := by
  have := hp.trans hq m1.next m2.next
  rwa [app_trans m1 ho he fun b hb hb' => hf b hb (Nat.lt_of_lt_of_le hb' m2.next)] at this
theorem put_mv {h h1 : H} {b : Nat} {bl x : Bl} (hb : h.get b = some bl) (hx : x.ts = h.clk) (p1 : h1.get = app (one b (some x)) h.get) (p2 : h1.next = h.next) (p3 : h1.clk = h.clk) : Mv h h1 := by
  refine ⟨by omega, by omega, fun c y hne hy => ?_, fun c hne => ?_⟩
  · rw [p1, app_one] at hne hy
    split at hy
    · cases hy; omega
    · rename_i e; rw [if_neg e] at hne; exact absurd rfl hne
  · rw [p1, app_one] at hne
    split at hne
    · rename_i e; subst e; exact .inl (by rw [hb]; simp)
    · exact absurd rfl hne
theorem Post.put {h h1 : H} {b : Nat} {bl x : Bl} {G : Hp} {w' : World} {B : Bk} (hb : h.get b = some bl) (hro : bl.ro = false) (hxr : x.ro = false) (p1 : h1.get = app (one b (some x)) h.get) (p2 : h1.next = h.next)
    (ho : Ok X σ G w) (he : Ext G h.get) (hB : σ.bk b = some B) (hr : RelC X σ w' B x.c) (r3 : Only B.r w w') : Post X σ G w h.next h1.next σ (app (diff h.get h1.get) G) w' := by
  have hp : Post X σ G w h.next h1.next σ (app (one b (some x)) G) w' := by
    rw [p2]
    exact Post.turn ho (he b bl hb) hro hxr hB hr r3.size r3.oth r3.os r3.tape r3.output _
  have eW : app (one b (some x)) G = app (diff h.get h1.get) G := by
    funext c
    rw [app_one]
    unfold app diff
    rw [p1, app_one]
    by_cases e : c = b
    · subst e
      rw [if_pos rfl, if_pos rfl]
      by_cases e2 : some x = h.get c
      · rw [if_pos e2, e2, hb]; exact (he c bl hb).symm
      · rw [if_neg e2]; rfl
    · rw [if_neg e, if_neg e, if_pos rfl]; rfl
  rw [eW] at hp
  exact hp
theorem new_mv {h h1 : H} {x : Bl} (hx : x.ts = h.clk) (p1 : h1.get = app (one h.next (some x)) h.get) (p2 : h1.next = h.next + 1) (p3 : h1.clk = h.clk) : Mv h h1 := by
  refine ⟨by omega, by omega, fun c y hne hy => ?_, fun c hne => ?_⟩
  · rw [p1, app_one] at hne hy
    split at hy
    · cases hy; omega
    · rename_i e; rw [if_neg e] at hne; exact absurd rfl hne
  · rw [p1, app_one] at hne
    split at hne
    · rename_i e; exact .inr ⟨by omega, by omega⟩
    · exact absurd rfl hne
theorem Post.new {h h1 : H} {x : Bl} {G : Hp} {ob : Obj} {m : Nat} (hxr : x.ro = false) (p1 : h1.get = app (one h.next (some x)) h.get) (p2 : h1.next = h.next + 1) (ho : Ok X σ G w) (he : Ext G h.get) (hn : σ.bk h.next = none)
    (hr : RelC X (σ.set h.next ⟨w.heap.size, 0, m⟩) (w.alloc ob) ⟨w.heap.size, 0, m⟩ x.c) : Post X σ G w h.next h1.next (σ.set h.next ⟨w.heap.size, 0, m⟩) (app (diff h.get h1.get) G) (w.alloc ob) := by
  have hp := Post.alloc (bl := x) ho hn hxr hr
  have hnone : G h.next = none := by
    cases hg : G h.next with
    | none => rfl
    | some y => obtain ⟨B, h1, _⟩ := ho.rel _ y hg; rw [hn] at h1; cases h1
  have hh : h.get h.next = none := by
    cases hg : h.get h.next with
    | none => rfl
    | some y => rw [he _ y hg] at hnone; cases hnone
  have eW : app (one h.next (some x)) G = app (diff h.get h1.get) G := by
    funext c
    rw [app_one]
    unfold app diff
    rw [p1, app_one]
    by_cases e : c = h.next
    · subst e
      rw [if_pos rfl, if_pos rfl, if_neg (by rw [hh]; simp)]; rfl
    · rw [if_neg e, if_neg e, if_pos rfl]; rfl
  rw [eW, ← p2] at hp
  exact hp

/-! ### a round of a loop over a function -/
/-- the round's arguments, laid into the frame -/
noncomputable def parK (ps : List Sl) : AV → Fr → (Fr → Bool) → Bool :=
  List.rec (motive := fun _ => AV → Fr → (Fr → Bool) → Bool) (fun l fr k => casesRow l (fun _ _ => false) (k fr)) (fun s _ ih l fr k => casesRow l (fun x l => F3.setK s fr x fun fr => ih l fr k) false) ps
def laid : List Sl → AV → Fr → Fr
  | s :: ps, .cons x l, fr => laid ps l (F3.put fr s x)
  | _, _, fr => fr
theorem parK_inv {k : Fr → Bool} : ∀ {ps : List Sl} {l : AV} {fr : Fr}, parK ps l fr k = true → k (laid ps l fr) = true ∧ l.len = ps.length
  | [], l, fr, hk => by
    rcases casesRow_inv hk with ⟨x, l', rfl, hk⟩ | ⟨rfl, hk⟩
    · cases hk
    · exact ⟨hk, rfl⟩
  | s :: ps, l, fr, hk => by
    rcases casesRow_inv hk with ⟨x, l', rfl, hk1⟩ | ⟨rfl, hk1⟩
    · rw [F3.setK_eq] at hk1
      obtain ⟨g1, g2⟩ := parK_inv (ps := ps) hk1
      exact ⟨g1, by simp only [AV.len, List.length_cons, g2]⟩
    · cases hk1
theorem laid_RF : ∀ {ts : List Tmp} {ps : List Sl} {l : AV} {fr : Fr} {σ : Sig} {vs : List Value} {tmps : Array Value}, csls n ts = some ps → VL σ l vs → l.len = ps.length → RF σ n fr tmps → RF σ n (laid ps l fr) ((ts.zip vs).foldl (fun tmps p => tmps.setIfInBounds p.1 p.2) tmps) ∧ ps.length = ts.length
  | [], ps, l, fr, σ, vs, tmps, hc, hv, hl, hf => by
    cases hc
    cases l with
    | cons x l => simp [AV.len] at hl
    | _ => exact ⟨by simpa [laid] using hf, rfl⟩
  | t :: ts, ps, l, fr, σ, vs, tmps, hc, hv, hl, hf => by
    simp only [csls] at hc
    split at hc
    · rename_i s r h1 h2
      cases hc
      obtain ⟨h3, h4, rfl⟩ := sl_inv h1
      cases l with
      | cons x l =>
        obtain ⟨v, us, rfl, q1, q2⟩ := hv.cons_inv
        have hd : cdst n (some t) = some (.some (slot t)) := by simp [cdst, h1]
        have hf' := RF.put hd (a := ⟨tmps, []⟩) hf q1
        simp only [AV.len, List.length_cons] at hl
        obtain ⟨g1, g2⟩ := laid_RF h2 q2 (by omega) hf'
        exact ⟨g1, by simp only [List.length_cons, g2]⟩
      | _ => simp [AV.len] at hl
    · cases hc

end Go.Ev
end

section
set_option linter.unusedVariables false
set_option linter.unusedSimpArgs false
namespace Go.Ev

variable {X : Cx} {σ : Sig} {n : Nat} {ro : Option Nat} {fr : Fr} {ds : List Df} {h : H} {a : Act} {w : World}

/-- which code a compiled piece stands for -/
inductive Rep (X : Cx) (n g : Nat) : MC → List Item → Prop
  | code {c : Code} {m : MC} : compC X.E X.ng n g c = some m → rfAll ((lpOf X.P g).map (·.2)) c → (∀ q, lpOf X.P g = some q → q.1 = n) → Rep X n g m [.code c]
  | loop {c : Code} {m : MC} : compC X.E X.ng n g c = some m → rfAll ((lpOf X.P g).map (·.2)) c → (∀ q, lpOf X.P g = some q → q.1 = n) → Rep X n g (.loop m) [.code c, .inLoop c]
  | scope {r c : Code} {m mb : MC} : compC X.E X.ng n g r = some m → rfAll ((lpOf X.P g).map (·.2)) r → compC X.E X.ng n g c = some mb → rfAll ((lpOf X.P g).map (·.2)) c → (∀ q, lpOf X.P g = some q → q.1 = n) → Rep X n g (.inScope m mb) [.code r, .inScope c]
def Jump.exit' : Jump → Exit
  | .none => .normal
  | .ret => .ret
  | .exit id => .exit id
  | .goto l => .goto l
abbrev Kj := Jump → Fr → List Df → H → Bool
abbrev Slf := MC → Option Nat → Fr → List Df → H → Kj → Bool
def SelfOK (X : Cx) (self : Slf) : Prop := ∀ n g m is, Rep X n g m is → ∀ ro fr ds h K, self m ro fr ds h K = true →
  ∃ j o, o.e = Jump.exit' j ∧ K j o.fr o.ds o.h = true ∧ Mv h o.h ∧ CDoes X n ro is fr ds h o

/-- the table of the loops over functions -/
noncomputable def rtK (rt : T MRf) (g : Nat) (k : List Sl → MC → MC → Bool) : Bool := T.getK rt g (fun r => MRf.rec (motive := fun _ => Bool) (fun _ ps asg body => k ps asg body) r) false
theorem rtK_inv {g : Nat} {k : List Sl → MC → MC → Bool} (hk : rtK X.rt g k = true) : ∃ n pst c1 c2 ps asg body, lpOf X.P g = some (n, pst, c1, c2) ∧ csls n pst.toList = some ps ∧ Rep X n g asg [.code c1] ∧ Rep X n g body [.code c2] ∧ k ps asg body = true := by
  unfold rtK at hk
  rw [T.getK_eq] at hk
  split at hk
  · rename_i r hr
    have hc := X.rtok g r hr
    unfold compR at hc
    split at hc
    · cases hc
    · rename_i n pst c1 c2 hl
      split at hc
      · rename_i h0
        split at hc
        · rename_i ps x y h1 h2 h3
          cases hc
          refine ⟨n, pst, c1, c2, ps, x, y, hl, h1, .code h2 (rfAll_none _ h0.1) (fun q hq => ?_), .code h3 (rfAll_none _ h0.2) (fun q hq => ?_), hk⟩
          · rw [hl] at hq; cases hq; rfl
          · rw [hl] at hq; cases hq; rfl
        · cases hc
      · cases hc
  · cases hk

noncomputable def onLoop (c : Blk) (k : LoopState → Jump → Fr → Nat → Nat → Bool) : Bool := match c with | .loop st pend fr g d => k st pend fr g d | _ => false
theorem onLoop_inv {c : Blk} {k : LoopState → Jump → Fr → Nat → Nat → Bool} (h : onLoop c k = true) : ∃ st pend fr g d, c = .loop st pend fr g d ∧ k st pend fr g d = true := by
  unfold onLoop at h
  split at h
  · exact ⟨_, _, _, _, _, rfl, h⟩
  · cases h
noncomputable def onReady (s : LoopState) (k : Bool) : Bool := match s with | .ready => k | _ => false
theorem onReady_inv {s : LoopState} {k : Bool} (h : onReady s k = true) : s = .ready ∧ k = true := by
  unfold onReady at h
  split at h
  · exact ⟨rfl, h⟩
  · cases h
noncomputable def onNone (j : Jump) (k : Bool) : Bool := match j with | .none => k | _ => false
theorem onNone_inv {j : Jump} {k : Bool} (h : onNone j k = true) : j = .none ∧ k = true := by
  unfold onNone at h
  split at h
  · exact ⟨rfl, h⟩
  · cases h
def Jump.isNone : Jump → Bool
  | .none => true
  | _ => false
noncomputable def endR (b : Nat) (j : Jump) (h : H) (k : Kt) : Bool := getB h b fun bl => chk (!bl.ro) (onLoop bl.c fun st pend fr g d =>
  Jump.rec (motive := fun _ => Bool) (putB h b (.loop .ready .none fr g d) fun h => k (.bool true) h) (putB h b (.loop .done j fr g d) fun h => k (.bool false) h)
    (fun _ => putB h b (.loop .done j fr g d) fun h => k (.bool false) h) (fun _ => putB h b (.loop .done j fr g d) fun h => k (.bool false) h) j)
noncomputable def dsNil (ds : List Df) (k : Bool) : Bool := List.rec (motive := fun _ => Bool) k (fun _ _ _ => false) ds
theorem dsNil_inv {ds : List Df} {k : Bool} (h : dsNil ds k = true) : ds = [] ∧ k = true := by
  cases ds with
  | nil => exact ⟨rfl, h⟩
  | cons d ds => cases h
noncomputable def roundK (rt : T MRf) (self : Slf) (b : Nat) (l : AV) (h : H) (k : Kt) : Bool := getB h b fun bl => onLoop bl.c fun st _ fr g _ => rtK rt g fun ps asg body => parK ps l fr fun fr =>
  self asg (some b) fr [] h fun j fr ds h => onNone j (dsNil ds (getB h b fun bl => chk (!bl.ro) (onLoop bl.c fun st pend frL g' d => onReady st (putB h b (.loop .busy pend frL g' d) fun h =>
    self body (some b) fr [] h fun j _ _ h => endR b j h k))))

theorem endR_inv {b : Nat} {j : Jump} {k : Kt} (hk : endR b j h k = true) : ∃ h', Mv h h' ∧ k (.bool j.isNone) h' = true ∧
    ∀ (σ : Sig) (G : Hp) (w : World) (B : Bk), σ.bk b = some B → Ok X σ G w → Ext G h.get → ∃ w', (Instr.endRound B.r j.code).run X.P w = .ok (.bool j.isNone) w' ∧ Post X σ G w h.next h'.next σ (app (diff h.get h'.get) G) w' := by
  unfold endR at hk
  obtain ⟨bl, hb, hk⟩ := getB_inv hk
  obtain ⟨hro, hk⟩ := chk_eq hk
  obtain ⟨st, pend, frL, g, d, hc, hk⟩ := onLoop_inv hk
  have hro : bl.ro = false := by simpa using hro
  have main : ∀ (st' : LoopState) (v : Bool), st' = (if j.code.isNone then .ready else .done) → v = j.isNone → j.code.isNone = j.isNone → putB h b (.loop st' j frL g d) (fun h => k (.bool v) h) = true →
      ∃ h', Mv h h' ∧ k (.bool j.isNone) h' = true ∧ ∀ (σ : Sig) (G : Hp) (w : World) (B : Bk), σ.bk b = some B → Ok X σ G w → Ext G h.get → ∃ w', (Instr.endRound B.r j.code).run X.P w = .ok (.bool j.isNone) w' ∧ Post X σ G w h.next h'.next σ (app (diff h.get h'.get) G) w' := by
    intro st' v hst hv hjn hk
    obtain ⟨h', p1, p2, p3, hk⟩ := putB_inv hk
    refine ⟨h', put_mv hb rfl p1 p2 p3, by rw [← hv]; exact hk, fun σ G w B hB ho he => ?_⟩
    obtain ⟨B', hB', hr⟩ := ho.rel b bl (he b bl hb)
    rw [hB] at hB'; cases hB'
    rw [hc] at hr
    obtain ⟨L, m, D, q1, q2, q3, q4, q5, q8, q9⟩ := hr
    obtain ⟨w', r1, r2, r3⟩ := setObj_only (X := X) (o' := .loop { L with state := if j.code.isNone then .ready else .done, pending := j.code }) q1 (by simp)
    refine ⟨w', ?_, Post.put hb hro rfl p1 p2 ho he hB ⟨_, m, D, r2, hst.symm, rfl, q4, q5, q8, q9⟩ r3⟩
    simp only [Instr.endRound, Instr.getLoop, Sem.run_bind, getObj, Sem.run, q1, Result.andThen_ok, Sem.run_pure, r1]
    rw [hjn]
  cases j with
  | none => exact main .ready true rfl rfl rfl hk
  | ret => exact main .done false rfl rfl rfl hk
  | exit id => exact main .done false rfl rfl rfl hk
  | goto l => exact main .done false rfl rfl rfl hk

theorem roundK_inv {self : Slf} (hself : SelfOK X self) {b : Nat} {l : AV} {k : Kt} (hk : roundK X.rt self b l h k = true) : ∃ v h', Mv h h' ∧ k v h' = true ∧ RoundD X b l h v h' := by
  unfold roundK at hk
  obtain ⟨bl, hb, hk⟩ := getB_inv hk
  obtain ⟨st, pend, frL, g, d, hc, hk⟩ := onLoop_inv hk
  obtain ⟨m, pst, c1, c2, ps, asg, body, hlp, hps, rep1, rep2, hk⟩ := rtK_inv hk
  obtain ⟨hk, hlen⟩ := parK_inv hk
  obtain ⟨j1, o1, e1, hk, m1, hdo1⟩ := hself _ _ _ _ rep1 _ _ _ _ _ hk
  obtain ⟨hj1, hk⟩ := onNone_inv hk
  obtain ⟨hds1, hk⟩ := dsNil_inv hk
  obtain ⟨bl1, hb1, hk⟩ := getB_inv hk
  obtain ⟨hro1, hk⟩ := chk_eq hk
  obtain ⟨st1, pend1, frL1, gg1, d1, hc1, hk⟩ := onLoop_inv hk
  obtain ⟨hst1, hk⟩ := onReady_inv hk
  obtain ⟨h2, p1, p2, p3, hk⟩ := putB_inv hk
  obtain ⟨j3, o3, e3, hk, m3, hdo3⟩ := hself _ _ _ _ rep2 _ _ _ _ _ hk
  obtain ⟨h4, m4, hk, hend⟩ := endR_inv hk
  have hro1 : bl1.ro = false := by simpa using hro1
  have m2 : Mv o1.h h2 := put_mv hb1 rfl p1 p2 p3
  refine ⟨_, h4, ((m1.trans m2).trans m3).trans m4, hk, fun σ G w vs B hB hv ho he hfr => ?_⟩
  obtain ⟨B', hB', hr⟩ := ho.rel b bl (he b bl hb)
  rw [hB] at hB'; cases hB'
  rw [hc] at hr
  obtain ⟨L, m', D, q1, q2, q3, q4, q5, q8, q9⟩ := hr
  rw [hlp] at q5
  simp only [Option.some.injEq, Prod.mk.injEq] at q5
  obtain ⟨rfl, rfl, rfl, rfl⟩ := q5
  obtain ⟨hf0, hpl⟩ := laid_RF (vs := vs.toList) hps hv hlen q4
  refine ⟨L.fn, (L.params.zip vs).foldl (fun tmps (t, a) => tmps.setIfInBounds t a) L.tmps, L.assign, L.body, ?_, ?_⟩
  · have hsz : ¬ (vs.size ≠ L.params.size) := by
      have := hv.len
      simp only [Array.length_toList] at this hpl
      omega
    simp only [Instr.yield, Instr.getLoop, Sem.run_bind, getObj, Sem.run, q1, Result.andThen_ok, Sem.run_pure, if_neg hsz]
  · have htm : (L.params.zip vs).foldl (fun tmps (t, a) => tmps.setIfInBounds t a) L.tmps = (L.params.toList.zip vs.toList).foldl (fun tmps p => tmps.setIfInBounds p.1 p.2) L.tmps := by
      rw [← Array.foldl_toList, Array.toList_zip]
    rw [htm]
    refine roundIn_of_wpIn trivial ?_
    have n2 : o1.h.next ≤ h2.next := m2.next
    have n3 := m3.next
    have n4 := m4.next
    have w1 := hdo1 σ G { tmps := (L.params.toList.zip vs.toList).foldl (fun tmps p => tmps.setIfInBounds p.1 p.2) L.tmps, defers := [] } w (some B.r) ⟨B, hB, rfl⟩ hf0 rfl ho he (fun c p q => hfr c p (by omega))
    refine wpIn_mono (RunIn.code.1 w1) ?_
    rintro e a1 w1' ⟨he1', τ, g1, g2, g3⟩
    have hn1 : e = .normal := by rw [he1', e1, hj1]; rfl
    subst hn1
    rw [hds1] at g2
    have hB1 : τ.bk b = some B := g3.le.1 _ _ hB
    have he1 : Ext (app (diff h.get o1.h.get) G) o1.h.get := ext_app he
    obtain ⟨B', hB', hr⟩ := g3.ok.rel b bl1 (he1 b bl1 hb1)
    rw [hB1] at hB'; cases hB'
    rw [hc1] at hr
    obtain ⟨L1, mm, D1, t1, t2, t3, t4, t5, t8, t9⟩ := hr
    rw [hst1] at t2
    obtain ⟨w2, r1, r2, r3⟩ := setObj_only (X := X) (o' := .loop { L1 with state := .busy }) t1 (by simp)
    have hrel : RelC X τ w2 B (.loop .busy pend1 frL1 gg1 d1) := ⟨{ L1 with state := .busy }, mm, D1, r2, rfl, t3, t4, t5, t8, t9⟩
    have g4 := Post.put (x := ⟨o1.h.clk, false, .loop .busy pend1 frL1 gg1 d1⟩) hb1 hro1 rfl p1 p2 g3.ok he1 hB1 hrel r3
    have f2 : ∀ c, h.next ≤ c → c < h2.next → σ.bk c = none := fun c p q => hfr c p (by omega)
    have g5 := Post.comp m1 m2 ho he f2 g3 g4
    refine ⟨w2, ?_, ?_⟩
    · simp only [Instr.beginRound, Instr.getLoop, Sem.run_bind, getObj, Sem.run, t1, Result.andThen_ok, Sem.run_pure, r1, t2]
    · have f3 : ∀ c, h.next ≤ c → c < o3.h.next → σ.bk c = none := fun c p q => hfr c p (by omega)
      have f4 := fresh_next g5 (m1.trans m2).next f3
      have w3 := hdo3 τ _ a1 w2 (some B.r) ⟨B, hB1, rfl⟩ g1 g2 g5.ok (ext_app he) f4
      refine wpIn_mono (RunIn.code.1 w3) ?_
      rintro e a3 w3' ⟨he3, υ, k1, k2, k3⟩
      have g6 := Post.comp (m1.trans m2) m3 ho he f3 g5 k3
      have hB3 : υ.bk b = some B := k3.le.1 _ _ hB1
      obtain ⟨w4, s1, s2⟩ := hend υ _ w3' B hB3 g6.ok (ext_app he)
      have g7 := Post.comp ((m1.trans m2).trans m3) m4 ho he hfr g6 s2
      have fin : ∃ v w', (Instr.endRound B.r j3.code).run X.P w3' = .ok v w' ∧ retQ X σ G w h (.bool j3.isNone) h4 (.returned v) w' := ⟨_, w4, s1, υ, rfl, g7⟩
      rw [he3, e3]
      cases j3 <;> exact fin

end Go.Ev
end

section
set_option linter.unusedVariables false
set_option linter.unusedSimpArgs false
namespace Go.Ev

variable {X : Cx} {σ : Sig} {n : Nat} {ro : Option Nat} {fr : Fr} {ds : List Df} {h : H} {a : Act} {w : World}

/-! ### a loop over a function -/
noncomputable def onIdle (s : LoopState) (k : Bool) : Bool := match s with | .busy => false | _ => k
theorem onIdle_inv {s : LoopState} {k : Bool} (h : onIdle s k = true) : s ≠ .busy ∧ k = true := by
  unfold onIdle at h
  split at h
  · cases h
  · rename_i hs; exact ⟨hs, h⟩
noncomputable def endL (l : Nat) (h : H) (k : Jump → H → Bool) : Bool := getB h l fun bl => chk (!bl.ro) (onLoop bl.c fun st pend fr g d => onIdle st (putB h l (.loop .exhausted pend fr g d) fun h => k pend h))
theorem endL_inv {l : Nat} {k : Jump → H → Bool} (hk : endL l h k = true) : ∃ j h', Mv h h' ∧ k j h' = true ∧
    ∀ (σ : Sig) (G : Hp) (w : World) (B : Bk), σ.bk l = some B → Ok X σ G w → Ext G h.get → ∃ w', (Instr.endLoop B.r).run X.P w = .ok j.code w' ∧ Post X σ G w h.next h'.next σ (app (diff h.get h'.get) G) w' := by
  unfold endL at hk
  obtain ⟨bl, hb, hk⟩ := getB_inv hk
  obtain ⟨hro, hk⟩ := chk_eq hk
  obtain ⟨st, pend, frL, g, d, hc, hk⟩ := onLoop_inv hk
  obtain ⟨hst, hk⟩ := onIdle_inv hk
  have hro : bl.ro = false := by simpa using hro
  obtain ⟨h', p1, p2, p3, hk⟩ := putB_inv hk
  refine ⟨pend, h', put_mv hb rfl p1 p2 p3, hk, fun σ G w B hB ho he => ?_⟩
  obtain ⟨B', hB', hr⟩ := ho.rel l bl (he l bl hb)
  rw [hB] at hB'; cases hB'
  rw [hc] at hr
  obtain ⟨L, m, D, q1, q2, q3, q4, q5, q8, q9⟩ := hr
  obtain ⟨w', r1, r2, r3⟩ := setObj_only (X := X) (o' := .loop { L with state := .exhausted }) q1 (by simp)
  have hrel : RelC X σ w' B (.loop .exhausted pend frL g d) := ⟨{ L with state := .exhausted }, m, D, r2, rfl, q3, q4, q5, q8, q9⟩
  refine ⟨w', ?_, Post.put hb hro rfl p1 p2 ho he hB hrel r3⟩
  have hne : (L.state == LoopState.busy) = false := by
    rw [q2]; cases st <;> first | rfl | exact absurd rfl hst
  simp only [Instr.endLoop, Instr.getLoop, Sem.run_bind, getObj, Sem.run, q1, Result.andThen_ok, Sem.run_pure, hne, Bool.false_eq_true, if_false, r1]
  rw [q3]

noncomputable def rfCall (cl : Cl) (v : AV) (l : Nat) (h : H) (k : H → Bool) : Bool := match v with
  | .fn f p q => rappK (.cons (.yld l) .nil) q fun r => rappK p r fun r => cl.f f r h fun _ h => k h
  | _ => false
noncomputable def rfK (cl : Cl) (ro : Option Nat) (g : Nat) (f : MO) (fr : Fr) (ds : List Df) (h : H) (K : Kj) : Bool := f.getK fr fun v =>
  Option.rec (motive := fun _ => Bool)
    (newB h (.defd true) fun r h => newB h (.loop .ready .none fr g r) fun l h => rfCall cl v l h fun h => endL l h fun j h => K j fr (.mark r :: ds) h)
    (fun b => getB h b fun bl => onLoop bl.c fun _ _ _ _ d => newB h (.loop .ready .none fr g d) fun l h => rfCall cl v l h fun h => endL l h fun j h => K j fr ds h) ro

theorem rfCall_inv {cl : Cl} (hcl : ClOK X cl) {v : AV} {l : Nat} {k : H → Bool} (hk : rfCall cl v l h k = true) : ∃ h', Mv h h' ∧ k h' = true ∧
    ∀ (σ : Sig) (G : Hp) (w : World) (u : Value) (B : Bk), σ.bk l = some B → V σ v u → Ok X σ G w → Ext G h.get → (∀ b, h.next ≤ b → b < h'.next → σ.bk b = none) →
      ∃ r d f args, (Deferred.ofValue u #[.func (.yield B.r) #[] #[]]).run X.P w = .ok d w ∧ (invoke d.target d.args).run X.P w = .ok (.enter f args) w ∧ CallsIn Fence.wide 0 X.P f args w (retQ X σ G w h r h') := by
  unfold rfCall at hk
  split at hk
  · rename_i f p q
    have hk := rappK_inv (m := q) (a := .cons (.yld l) .nil) (k := fun r => rappK p r fun r => cl.f f r h fun _ h => k h) hk
    have hk := rappK_inv (m := (AV.cons (.yld l) .nil).app q) (a := p) (k := fun r => cl.f f r h fun _ h => k h) hk
    obtain ⟨r, h', m, hk, hD⟩ := hcl.f _ _ _ _ hk
    refine ⟨h', m, hk, fun σ G w u B hB hu hok hext hfr => ?_⟩
    obtain ⟨ps, qs, rfl, hp, hq⟩ := (hu : ∃ ps qs, _)
    have hy : VL σ (.cons (.yld l) .nil) [Value.func (.yield B.r) #[] #[]] := VL.cons ⟨B, hB, rfl⟩ VL.nil
    have hrow : VL σ (p.app ((AV.cons (.yld l) .nil).app q)) ((ps ++ #[Value.func (.yield B.r) #[] #[]]) ++ qs).toList := by
      have := VL.app (VL.app hq hy) hp
      simpa [List.append_assoc] using this
    obtain ⟨h1, h2⟩ := hD σ G w _ hrow hok hext hfr
    exact ⟨r, _, f, _, rfl, h1, h2⟩
  · cases hk

/-- the statement, once the loop's record lies there -/
theorem rf_tail {cl : Cl} {l : Nat} {h2 h3 h4 : H} {j : Jump} {v : AV} {dsx : List Df} (m2 : Mv h h2) (m3 : Mv h2 h3) (m4 : Mv h3 h4)
    (hcall : ∀ (σ : Sig) (G : Hp) (w : World) (u : Value) (B : Bk), σ.bk l = some B → V σ v u → Ok X σ G w → Ext G h2.get → (∀ b, h2.next ≤ b → b < h3.next → σ.bk b = none) →
      ∃ r d f args, (Deferred.ofValue u #[.func (.yield B.r) #[] #[]]).run X.P w = .ok d w ∧ (invoke d.target d.args).run X.P w = .ok (.enter f args) w ∧ CallsIn Fence.wide 0 X.P f args w (retQ X σ G w h2 r h3))
    (hend : ∀ (σ : Sig) (G : Hp) (w : World) (B : Bk), σ.bk l = some B → Ok X σ G w → Ext G h3.get → ∃ w', (Instr.endLoop B.r).run X.P w = .ok j.code w' ∧ Post X σ G w h3.next h4.next σ (app (diff h3.get h4.get) G) w')
    {σ τ : Sig} {G : Hp} {w2 : World} {rm : Option Nat} {gop : Operand} {B : Bk} {mark : List Deferred} (ho : Ok X σ G w) (he : Ext G h.get) (hfr : ∀ b, h.next ≤ b → b < h4.next → σ.bk b = none)
    (hp : Post X σ G w h.next h2.next τ (app (diff h.get h2.get) G) w2) (hB : τ.bk l = some B) (hv : V τ v (a.eval gop)) (hf : RF σ n fr a.tmps) (hds : ∀ υ, τ.le υ → DF υ dsx (mark ++ a.defers)) :
    ∃ (d : Deferred) (f : FuncId) (args : Array Value), (resolve a.eval (rangeCall gop B.r) 0).run X.P w2 = .ok d w2 ∧ (invoke d.target d.args).run X.P w2 = .ok (.enter f args) w2 ∧
      CallsIn (Fw rm) (0 - 1) X.P f args w2 (rangePost (Fw rm) 0 X.P B.r (EndQ X n σ G w h ⟨Jump.exit' j, fr, dsx, h4⟩) { a with defers := mark ++ a.defers }) := by
  have n3 := m3.next
  have n4 := m4.next
  have f2 : ∀ b, h.next ≤ b → b < h3.next → σ.bk b = none := fun b p q => hfr b p (by omega)
  obtain ⟨r, d, f, args, e1, e2, e3⟩ := hcall τ _ w2 _ B hB hv hp.ok (ext_app he) (fresh_next hp m2.next f2)
  refine ⟨d, f, args, ?_, e2, ?_⟩
  · simp only [resolve, rangeCall, List.map_toArray, List.map_cons, List.map_nil, Act.eval] at e1 ⊢
    exact e1
  · have e3' : CallsIn (Fw rm) (0 - 1) X.P f args w2 (retQ X τ (app (diff h.get h2.get) G) w2 h2 r h3) := e3
    refine CallsIn.mono e3' fun e w3 he3 => ?_
    cases e with
    | panicked c => exact he3.elim
    | outgrown => exact he3.elim
    | returned x =>
      obtain ⟨υ, _, hp3⟩ := he3
      have g3 := Post.comp m2 m3 ho he f2 hp hp3
      have hB3 : υ.bk l = some B := hp3.le.1 _ _ hB
      obtain ⟨w4, r1, r2⟩ := hend υ _ w3 B hB3 g3.ok (ext_app he)
      have g4 := Post.comp (m2.trans m3) m4 ho he hfr g3 r2
      refine ⟨j.code, w4, r1, ?_⟩
      have fin : ∀ e, e = Jump.exit' j → EndQ X n σ G w h ⟨Jump.exit' j, fr, dsx, h4⟩ e { a with defers := mark ++ a.defers } w4 := fun e he => ⟨he, υ, hf.mono g4.le, hds υ hp3.le, g4⟩
      cases j with
      | none => exact fin _ rfl
      | ret => exact wpIn_ret (fin _ rfl)
      | exit id => exact wpIn_exit (fin _ rfl)
      | goto l => exact wpIn_goto (fin _ rfl)

theorem rfK_inv {cl : Cl} (hcl : ClOK X cl) {g : Nat} {f : MO} {K : Kj} (hk : rfK cl ro g f fr ds h K = true) :
    ∃ j o, o.e = Jump.exit' j ∧ K j o.fr o.ds o.h = true ∧ Mv h o.h ∧ ∀ (n : Nat) (gop : Operand) (pst : Array Tmp) (c1 c2 : Code), mo X.ng n gop = some f → lpOf X.P g = some (n, pst, c1, c2) →
      CDoes X n ro [.code (.rangeFunc gop pst c1 c2)] fr ds h o := by
  unfold rfK at hk
  rw [MO.getK_eq] at hk
  cases ro with
  | none =>
    change newB h (.defd true) (fun r h => newB h (.loop .ready .none fr g r) fun l h => rfCall cl (f.val fr) l h fun h => endL l h fun j h => K j fr (.mark r :: ds) h) = true at hk
    obtain ⟨h1, p1, p2, p3, hk⟩ := newB_inv hk
    obtain ⟨h2, q1, q2, q3, hk⟩ := newB_inv hk
    obtain ⟨h3, m3, hk, hcall⟩ := rfCall_inv hcl hk
    obtain ⟨j, h4, m4, hk, hend⟩ := endL_inv hk
    have m1 : Mv h h1 := new_mv rfl p1 p2 p3
    have m2 : Mv h1 h2 := new_mv rfl q1 q2 q3
    refine ⟨j, ⟨Jump.exit' j, fr, .mark h.next :: ds, h4⟩, rfl, hk, ((m1.trans m2).trans m3).trans m4, fun n gop pst c1 c2 hg hlp σ G a w rm hro hf hd ho he hfr => ?_⟩
    have hrm : rm = none := hro
    subst hrm
    have n3 := m3.next
    have n4 := m4.next
    have hfr : ∀ b, h.next ≤ b → b < h4.next → σ.bk b = none := hfr
    refine wpIn_rangeFunc fun fn _ => ?_
    have s1 : σ.bk h.next = none := hfr _ (Nat.le_refl _) (by omega)
    have P1 := Post.new (m := 0) (ob := .deferred (some [])) (x := ⟨h.clk, false, .defd true⟩) rfl p1 p2 ho he s1 (heap_alloc_new' w _)
    have s2 : (σ.set h.next ⟨w.heap.size, 0, 0⟩).bk h1.next = none := by
      rw [Sig.set_ne (by omega)]; exact hfr _ (by omega) (by omega)
    have hl : RelC X ((σ.set h.next ⟨w.heap.size, 0, 0⟩).set h1.next ⟨(w.alloc (.deferred (some []))).heap.size, 0, 0⟩) ((w.alloc (.deferred (some []))).alloc (.loop { state := .ready, pending := none, fn := fn, tmps := a.tmps, params := pst, assign := c1, body := c2, defers := w.heap.size }))
        ⟨(w.alloc (.deferred (some []))).heap.size, 0, 0⟩ (.loop .ready .none fr g h.next) :=
      ⟨_, n, ⟨w.heap.size, 0, 0⟩, heap_alloc_new' _ _, rfl, rfl, (hf.mono P1.le).mono (Sig.set_le s2), hlp, by rw [Sig.set_ne (by omega)]; exact Sig.set_same, rfl⟩
    have P2 := Post.new (m := 0) (x := ⟨h1.clk, false, .loop .ready .none fr g h.next⟩) rfl q1 q2 P1.ok (ext_app he) s2 hl
    have hp := Post.comp m1 m2 ho he (fun b p q => hfr b p (by omega)) P1 P2
    have hv := mo_V hg (hf.fit (L := fun _ => True) ho.sane) (fun _ _ => trivial)
    obtain ⟨d, f', args, e1, e2, e3⟩ := rf_tail (n := n) (fr := fr) (a := a) (cl := cl) (l := h1.next) (rm := none) (gop := gop) (dsx := .mark h.next :: ds) (mark := [{ target := .collected w.heap.size, args := #[] }]) (m1.trans m2) m3 m4 hcall hend ho he hfr hp Sig.set_same (hv.mono hp.le) hf
      (fun υ hle => ⟨_, _, rfl, ⟨⟨w.heap.size, 0, 0⟩, hle.1 _ _ (by rw [Sig.set_ne (by omega)]; exact Sig.set_same), rfl⟩, hd.mono (hp.le.trans hle)⟩)
    refine ⟨_, _, _, d, _, f', args, _, ?_, e1, fun _ _ => trivial, e2, fun h => (by cases h), e3⟩
    simp [Instr.enterLoop]
  | some b =>
    change getB h b (fun bl => onLoop bl.c fun _ _ _ _ d => newB h (.loop .ready .none fr g d) fun l h => rfCall cl (f.val fr) l h fun h => endL l h fun j h => K j fr ds h) = true at hk
    obtain ⟨bl, hb, hk⟩ := getB_inv hk
    obtain ⟨st, pend, frL, gL, d0, hc, hk⟩ := onLoop_inv hk
    obtain ⟨h2, q1, q2, q3, hk⟩ := newB_inv hk
    obtain ⟨h3, m3, hk, hcall⟩ := rfCall_inv hcl hk
    obtain ⟨j, h4, m4, hk, hend⟩ := endL_inv hk
    have m2 : Mv h h2 := new_mv rfl q1 q2 q3
    refine ⟨j, ⟨Jump.exit' j, fr, ds, h4⟩, rfl, hk, (m2.trans m3).trans m4, fun n gop pst c1 c2 hg hlp σ G a w rm hro hf hd ho he hfr => ?_⟩
    obtain ⟨B0, hB0, hrm⟩ := (hro : ∃ B, σ.bk b = some B ∧ rm = some B.r)
    have n3 := m3.next
    have n4 := m4.next
    have hfr : ∀ b, h.next ≤ b → b < h4.next → σ.bk b = none := hfr
    obtain ⟨B', hB', hr⟩ := ho.rel b bl (he b bl hb)
    rw [hB0] at hB'; cases hB'
    rw [hc] at hr
    obtain ⟨L, mL, D, t1, t2, t3, t4, t5, t8, t9⟩ := hr
    refine wpIn_rangeFunc fun fn _ => ?_
    have s2 : σ.bk h.next = none := hfr _ (Nat.le_refl _) (by omega)
    have hl : RelC X (σ.set h.next ⟨w.heap.size, 0, 0⟩) (w.alloc (.loop { state := .ready, pending := none, fn := fn, tmps := a.tmps, params := pst, assign := c1, body := c2, defers := L.defers }))
        ⟨w.heap.size, 0, 0⟩ (.loop .ready .none fr g d0) :=
      ⟨_, n, D, heap_alloc_new' _ _, rfl, rfl, hf.mono (Sig.set_le s2), hlp, (Sig.set_le s2).1 _ _ t8, t9⟩
    have hp := Post.new (m := 0) (x := ⟨h.clk, false, .loop .ready .none fr g d0⟩) rfl q1 q2 ho he s2 hl
    have hv := mo_V hg (hf.fit (L := fun _ => True) ho.sane) (fun _ _ => trivial)
    obtain ⟨d, f', args, e1, e2, e3⟩ := rf_tail (n := n) (fr := fr) (a := a) (cl := cl) (l := h.next) (rm := rm) (gop := gop) (dsx := ds) (mark := []) m2 m3 m4 hcall hend ho he hfr hp Sig.set_same (hv.mono hp.le) hf
      (fun υ hle => hd.mono (hp.le.trans hle))
    refine ⟨_, _, _, d, _, f', args, _, ?_, e1, fun _ _ => trivial, e2, fun h => (by cases h), e3⟩
    have hround : (Fw rm).round = some B0.r := hrm
    rw [hround]
    simp [Instr.enterLoop, Instr.getLoop, getObj, Sem.run, t1]

end Go.Ev
end
