/- The evaluator as the kernel runs it. -/
import Derived.Test.YtjbckgabnkljlaaGreatDoorEvE

section
set_option linter.unusedVariables false
set_option linter.unusedSimpArgs false
namespace Go.Ev

/-! ### which operation must stand ahead of which -/
/-- an edge that binds at any order -/
def Edg (ops : Array Oper) (i j : Nat) : Prop := ∃ o e, ops[j]? = some o ∧ e ∈ o.after ∧ Region.binds .any e = true ∧ e.on = i
inductive Bef (ops : Array Oper) : Nat → Nat → Prop
  | edge {i j : Nat} : Edg ops i j → Bef ops i j
  | step {i j k : Nat} : Bef ops i j → Edg ops j k → Bef ops i k
/-- what has been listed: whoever is ahead of a listed one is listed -/
def Closed (ops : Array Oper) (listed : Array Bool) : Prop := ∀ i j, Edg ops i j → listed.getD j false = true → listed.getD i false = true
theorem Closed.bef {ops : Array Oper} {listed : Array Bool} (h : Closed ops listed) {i j : Nat} (hb : Bef ops i j) : listed.getD j false = true → listed.getD i false = true := by
  induction hb with
  | edge he => exact h _ _ he
  | step _ he ih => exact fun hk => ih (h _ _ he hk)
theorem Closed.ready {ops : Array Oper} {listed : Array Bool} (h : Closed ops listed) {i j : Nat} (hj : j ∈ Region.ready .any ops listed) (hb : Bef ops i j) : listed.getD i false = true := by
  obtain ⟨_, o, ho, hall⟩ := mem_ready.1 hj
  have edge : ∀ i, Edg ops i j → listed.getD i false = true := by
    rintro i ⟨o', e, h1, h2, h3, rfl⟩
    rw [ho] at h1; cases h1
    exact hall e h2 h3
  cases hb with
  | edge he => exact edge _ he
  | step hb' he => exact h.bef hb' (edge _ he)
theorem Closed.set {ops : Array Oper} {listed : Array Bool} (h : Closed ops listed) {j : Nat} (hj : j ∈ Region.ready .any ops listed) : Closed ops (listed.setIfInBounds j true) := by
  intro a b hab hb
  by_cases e : j = b
  · subst e
    exact getD_set_true (h.ready hj (.edge hab))
  · rw [getD_set_ne false e] at hb
    exact getD_set_true (h a b hab hb)

theorem bitsOf_sound {ops : Array Oper} {acc : List Nat} {j : Nat} (h : ∀ j i, ahead acc i j = true → Bef ops i j) : ∀ {l : List Nat} {i : Nat}, (∀ k ∈ l, Edg ops k j) → Nat.testBit (bitsOf acc l) i = true → Bef ops i j
  | [], i, _, hi => by simp [bitsOf] at hi
  | k :: l, i, hl, hi => by
    have e : bitsOf acc (k :: l) = ((1 <<< k) ||| acc.getD k 0) ||| bitsOf acc l := rfl
    rw [e, Nat.testBit_or, Nat.testBit_or] at hi
    simp only [Bool.or_eq_true] at hi
    rcases hi with (hi | hi) | hi
    · have : i = k := by
        rw [Nat.one_shiftLeft, Nat.testBit_two_pow] at hi
        exact (of_decide_eq_true hi).symm
      subst this
      exact .edge (hl _ List.mem_cons_self)
    · exact .step (h _ _ hi) (hl _ List.mem_cons_self)
    · exact bitsOf_sound h (fun k hk => hl k (List.mem_cons_of_mem _ hk)) hi
theorem predsGo_sound {ops : Array Oper} : ∀ (l : List Oper) (acc : List Nat), ops.toList.drop acc.length = l → (∀ j i, ahead acc i j = true → Bef ops i j) → ∀ j i, ahead (predsGo l acc) i j = true → Bef ops i j
  | [], acc, _, h => h
  | o :: l, acc, hl, h => by
    have ho : ops[acc.length]? = some o := by
      have : (ops.toList.drop acc.length)[0]? = some o := by rw [hl]; rfl
      rw [List.getElem?_drop] at this
      simpa using this
    refine predsGo_sound l _ ?_ ?_
    · rw [List.length_append, ← List.drop_drop, hl]; rfl
    · intro j i hi
      unfold ahead at hi
      rw [List.getD_eq_getElem?_getD] at hi
      by_cases e : j < acc.length
      · rw [List.getElem?_append_left e, ← List.getD_eq_getElem?_getD] at hi
        exact h j i hi
      · rw [List.getElem?_append_right (by omega)] at hi
        by_cases e2 : j = acc.length
        · subst e2
          simp only [Nat.sub_self, List.getElem?_cons_zero, Option.getD_some] at hi
          refine bitsOf_sound h (fun k hk => ?_) hi
          simp only [direct, List.mem_map, List.mem_filter] at hk
          obtain ⟨ed, ⟨h1, h2⟩, rfl⟩ := hk
          exact ⟨o, ed, ho, by simpa using h1, h2, rfl⟩
        · have : ([bitsOf acc (direct o)] : List Nat)[j - acc.length]? = none := List.getElem?_eq_none (by simp; omega)
          rw [this] at hi
          simp at hi
theorem preds_sound {ops : Array Oper} {j i : Nat} (h : ahead (preds ops) i j = true) : Bef ops i j :=
  predsGo_sound ops.toList [] rfl (fun j i h => by simp [ahead] at h) j i h

end Go.Ev
end

section
set_option linter.unusedVariables false
set_option linter.unusedSimpArgs false
namespace Go.Ev

variable {X : Cx} {σ : Sig} {n : Nat} {ro : Option Nat} {fr : Fr} {ds : List Df} {h : H} {a : Act} {w : World}

theorem F.ext' {α : Type} {f g : F α} (h : ∀ d, f.at d = g.at d) : f = g := by
  cases f; cases g
  have h0 := h .d0
  have h1 := h .d1
  have h2 := h .d2
  have h3 := h .d3
  have h4 := h .d4
  have h5 := h .d5
  have h6 := h .d6
  simp only [F.at] at h0 h1 h2 h3 h4 h5 h6
  subst h0 h1 h2 h3 h4 h5 h6
  rfl
theorem F3.ext' {α : Type} {f g : F3 α} (h : ∀ s, F3.at f s = F3.at g s) : f = g :=
  F.ext' fun x => F.ext' fun y => F.ext' fun z => h ⟨x, y, z⟩
theorem F3.put_comm {α : Type} (f : F3 α) {s u : Sl} (v x : α) (h : s ≠ u) : F3.put (F3.put f s v) u x = F3.put (F3.put f u x) s v := by
  apply F3.ext'
  intro t
  simp only [F3.at_put]
  by_cases e1 : t = u
  · subst e1
    rw [if_pos rfl, if_neg (Ne.symm h), if_pos rfl]
  · rw [if_neg e1, if_neg e1]

/-- a step of a region: the operation, what it does, the frame that it finds, where its value goes -/
structure Stk where
  j : Nat
  o : Oper
  s : Stp
  fr : Fr
  md : MD
/-- two steps that may change places -/
structure Apt (ops : Array Oper) (x y : Stk) : Prop where
  op : x.o.apart ops y.o = true
  wd : ∀ b, x.s.W b ≠ none → y.s.D b = none
  dw : ∀ b, x.s.D b ≠ none → y.s.W b = none
  ww : ∀ b, x.s.W b ≠ none → y.s.W b = none
def Chain (ops : Array Oper) (n : Nat) : Fr → Hp → List Stk → Prop
  | _, _, [] => True
  | fr, G, x :: l => Ext G x.s.D ∧ (∀ t, Looks ops x.o t → t < n → F3.at fr (slot t) = F3.at x.fr (slot t)) ∧ cdst n x.o.dst = some x.md ∧ Chain ops n (x.md.put fr x.s.v) (app x.s.W G) l

theorem put_at {x : Stk} {t : Tmp} {v : AV} (hd : cdst n x.o.dst = some x.md) (ht : t < n) (hn : ∀ d, x.o.dst = some d → d ≠ t) : F3.at (x.md.put fr v) (slot t) = F3.at fr (slot t) := by
  rcases cdst_inv hd with ⟨h1, h2⟩ | ⟨d, h1, h2, h3, h4⟩
  · rw [h2]; rfl
  · rw [h4]
    simp only [MD.put, F3.at_put]
    rw [if_neg]
    intro e
    exact hn d h1 (slot_inj (Nat.lt_of_lt_of_le ht h3) (Nat.lt_of_lt_of_le h2 h3) e).symm
theorem put_put {x y : Stk} {v u : AV} (hx : cdst n x.o.dst = some x.md) (hy : cdst n y.o.dst = some y.md) (hn : ∀ d, x.o.dst = some d → y.o.dst ≠ some d) : y.md.put (x.md.put fr v) u = x.md.put (y.md.put fr u) v := by
  rcases cdst_inv hx with ⟨h1, h2⟩ | ⟨d, h1, h2, h3, h4⟩
  · rw [h2]; rfl
  · rcases cdst_inv hy with ⟨g1, g2⟩ | ⟨d', g1, g2, g3, g4⟩
    · rw [g2]; rfl
    · rw [h4, g4]
      exact F3.put_comm _ _ _ fun e => hn d h1 (by rw [g1]; congr 1; exact (slot_inj (Nat.lt_of_lt_of_le h2 h3) (Nat.lt_of_lt_of_le g2 g3) e).symm)
theorem app_comm {W W' : Ch} (h : ∀ b, W b ≠ none → W' b = none) (G : Hp) : app W' (app W G) = app W (app W' G) := by
  funext b
  unfold app
  cases e : W b with
  | none => rfl
  | some x => rw [h b (by rw [e]; simp)]; rfl

theorem Chain.take {ops : Array Oper} {y : Stk} {l2 : List Stk} : ∀ {l1 : List Stk} {fr : Fr} {G : Hp}, Chain ops n fr G (l1 ++ y :: l2) → (∀ x ∈ l1, Apt ops x y) →
    Ext G y.s.D ∧ (∀ t, Looks ops y.o t → t < n → F3.at fr (slot t) = F3.at y.fr (slot t)) ∧ cdst n y.o.dst = some y.md ∧ Chain ops n (y.md.put fr y.s.v) (app y.s.W G) (l1 ++ l2)
  | [], fr, G, h, _ => h
  | x :: l1, fr, G, h, ha => by
    obtain ⟨h1, h2, h3, h4⟩ := h
    obtain ⟨g1, g2, g3, g4⟩ := Chain.take (l1 := l1) h4 fun z hz => ha z (List.mem_cons_of_mem _ hz)
    have hap := ha x List.mem_cons_self
    obtain ⟨a1, a2, a3⟩ := Oper.apart_spec hap.op
    refine ⟨fun b z hz => ?_, fun t ht htn => ?_, g3, fun b z hz => ?_, fun t ht htn => ?_, h3, ?_⟩
    · have := g1 b z hz
      unfold app at this
      cases e : x.s.W b with
      | none => rw [e] at this; exact this
      | some q => have := hap.wd b (by rw [e]; simp); rw [this] at hz; cases hz
    · rw [← put_at (x := x) (v := x.s.v) h3 htn (fun d hd e => a1 d hd (by subst e; exact ht))]
      exact g2 t ht htn
    · unfold app
      rw [hap.dw b (by rw [hz]; simp)]
      exact h1 b z hz
    · rw [put_at (x := y) (v := y.s.v) g3 htn (fun d hd e => a3 d hd (by subst e; exact ht))]
      exact h2 t ht htn
    · rw [put_put g3 h3 (fun d hd e => a2 d e hd), app_comm (fun b hb => by
        cases e : x.s.W b with
        | none => rfl
        | some q => exact absurd (hap.ww b (by rw [e]; simp)) hb)]
      exact g4

end Go.Ev
end

section
set_option linter.unusedVariables false
set_option linter.unusedSimpArgs false
namespace Go.Ev

variable {X : Cx} {σ : Sig} {n : Nat} {ro : Option Nat} {fr : Fr} {ds : List Df} {h : H} {a : Act} {w : World}

theorem Post.widen {σ τ : Sig} {G G' : Hp} {w w' : World} {lo hi lo' hi' : Nat} (h : Post X σ G w lo hi τ G' w') (h1 : lo' ≤ lo) (h2 : hi ≤ hi') : Post X σ G w lo' hi' τ G' w' :=
  ⟨h.le, fun b hb => h.out b (by omega), h.ok, h.os, h.tape, h.output, h.size, h.frame, h.own⟩
theorem Post.same {σ τ υ : Sig} {G G' G'' : Hp} {w w' w'' : World} {lo hi : Nat} (h : Post X σ G w lo hi τ G' w') (k : Post X τ G' w' lo hi υ G'' w'') : Post X σ G w lo hi υ G'' w'' :=
  ⟨h.le.trans k.le, fun i hi => (k.out i hi).trans (h.out i hi), k.ok, k.os.trans h.os, k.tape.trans h.tape, k.output.trans h.output, Nat.le_trans h.size k.size,
   fun r hr hn => (k.frame r (Nat.lt_of_lt_of_le hr h.size) (fun ho => (h.own r ho).elim hn (fun hs => by omega))).trans (h.frame r hr hn),
   fun r ho => (k.own r ho).elim (fun ho => h.own r ho) (fun hs => .inr (Nat.le_trans h.size hs))⟩

/-- the frame, the memory behind all steps -/
def endF : Fr → List Stk → Fr
  | fr, [] => fr
  | fr, x :: l => endF (x.md.put fr x.s.v) l
def endG : Hp → List Stk → Hp
  | G, [] => G
  | G, x :: l => endG (app x.s.W G) l
theorem end_take {ops : Array Oper} {y : Stk} {l2 : List Stk} : ∀ {l1 : List Stk} {fr : Fr} {G : Hp}, Chain ops n fr G (l1 ++ y :: l2) → (∀ x ∈ l1, Apt ops x y) →
    endF (y.md.put fr y.s.v) (l1 ++ l2) = endF fr (l1 ++ y :: l2) ∧ endG (app y.s.W G) (l1 ++ l2) = endG G (l1 ++ y :: l2)
  | [], fr, G, h, _ => ⟨rfl, rfl⟩
  | x :: l1, fr, G, h, ha => by
    obtain ⟨h1, h2, h3, h4⟩ := h
    obtain ⟨_, _, g3, _⟩ := Chain.take (l1 := l1) h4 fun z hz => ha z (List.mem_cons_of_mem _ hz)
    obtain ⟨e1, e2⟩ := end_take (l1 := l1) h4 fun z hz => ha z (List.mem_cons_of_mem _ hz)
    have hap := ha x List.mem_cons_self
    obtain ⟨a1, a2, a3⟩ := Oper.apart_spec hap.op
    simp only [List.cons_append, endF, endG]
    rw [← e1, ← e2, put_put h3 g3 a2, app_comm hap.ww]
    exact ⟨rfl, rfl⟩

/-- two steps of a region, the first reckoned ahead -/
structure Two (ops : Array Oper) (x y : Stk) : Prop where
  ne : x.j ≠ y.j
  back : ¬ Edg ops y.j x.j
  ids : x.s.hi ≤ y.s.lo
  ap : Bef ops x.j y.j ∨ Apt ops x y

theorem any_sound {ops : Array Oper} {rm : Option Nat} {Q : Exit → Act → World → Prop} {lo hi : Nat} (hlh : lo ≤ hi) (hself : ∀ j, ¬ Edg ops j j) (hin : ∀ i j, Edg ops i j → i < ops.size) : ∀ (fuel : Nat) (l : List Stk) (listed : Array Bool) (a : Act) (w : World) (σ : Sig) (G : Hp) (fr : Fr),
    l.length = fuel → listed.size = ops.size → (∀ x ∈ l, ops[x.j]? = some x.o ∧ OpJ X n ro ops x.j x.o x.fr x.s ∧ listed.getD x.j true = false ∧ lo ≤ x.s.lo ∧ x.s.hi ≤ hi) → (∀ j, j < ops.size → listed.getD j true = false → ∃ x ∈ l, x.j = j) →
    l.Pairwise (Two ops) → Closed ops listed → RF σ n fr a.tmps → Ok X σ G w → Chain ops n fr G l → (∀ x ∈ l, ∀ b, x.s.lo ≤ b → b < x.s.hi → σ.bk b = none) → Ro σ ro rm →
    (∀ a' w' τ, RF τ n (endF fr l) a'.tmps → a'.defers = a.defers → Post X σ G w lo hi τ (endG G l) w' → Q .normal a' w') → wpAnyIn (Fw rm) 0 X.P .any ops Q fuel listed a w := by
  have isT : ∀ (listed : Array Bool) (j : Nat), listed.getD j true = false → listed.getD j false = true → False := fun listed j h1 h2 => by
    by_cases hj : j < listed.size
    · simp [hj] at h1 h2; rw [h1] at h2; cases h2
    · simp [Nat.le_of_not_lt hj] at h1
  intro fuel
  induction fuel with
  | zero =>
    intro l listed a w σ G fr hlen hsz hl hcov hpw hcl hf ho hch hfr hro hQ
    have hnil : l = [] := List.length_eq_zero_iff.1 hlen
    subst hnil
    refine ⟨?_, hQ a w σ hf rfl ((Post.refl ho lo).widen (Nat.le_refl _) hlh)⟩
    apply List.eq_nil_iff_forall_not_mem.2
    intro j hj
    obtain ⟨h1, o, h2, _⟩ := mem_ready.1 hj
    obtain ⟨x, hx, _⟩ := hcov j (Array.getElem?_eq_some_iff.1 h2).1 h1
    cases hx
  | succ fuel ih =>
    intro l listed a w σ G fr hlen hsz hl hcov hpw hcl hf ho hch hfr hro hQ
    constructor
    · intro hempty
      exfalso
      cases l with
      | nil => cases hlen
      | cons x l =>
        obtain ⟨h1, h2, h3, _⟩ := hl x List.mem_cons_self
        have hxs := (Array.getElem?_eq_some_iff.1 h1).1
        have : x.j ∈ Region.ready .any ops listed := by
          refine mem_ready.2 ⟨h3, x.o, h1, fun e he hb => ?_⟩
          have hed : Edg ops e.on x.j := ⟨x.o, e, h1, he, hb, rfl⟩
          have hlt := hin e.on x.j hed
          cases hc : listed.getD e.on false with
          | true => rfl
          | false =>
            exfalso
            have hes : e.on < listed.size := by omega
            have hc2 : listed.getD e.on true = false := by
              simp [hes] at hc ⊢; exact hc
            obtain ⟨y, hy, hyj⟩ := hcov e.on (by omega) hc2
            rcases List.mem_cons.1 hy with rfl | hy
            · exact hself _ (hyj ▸ hed)
            · exact ((List.pairwise_cons.1 hpw).1 y hy).back (hyj ▸ hed)
        rw [hempty] at this
        cases this
    · intro i hi
      obtain ⟨h1, o, h2, _⟩ := mem_ready.1 hi
      obtain ⟨y, hy, hyj⟩ := hcov i (Array.getElem?_eq_some_iff.1 h2).1 h1
      subst hyj
      obtain ⟨l1, l2, rfl⟩ := List.append_of_mem hy
      have hpw' := hpw
      rw [List.pairwise_append] at hpw'
      obtain ⟨pw1, pw2, pw3⟩ := hpw'
      have hap : ∀ x ∈ l1, Apt ops x y := fun x hx => by
        rcases (pw3 x hx y List.mem_cons_self).ap with hp | hp
        · exact (isT listed x.j (hl x (by simp [hx])).2.2.1 (hcl.ready hi hp)).elim
        · exact hp
      obtain ⟨c1, c2, c3, c4⟩ := Chain.take hch hap
      obtain ⟨e1, e2⟩ := end_take hch hap
      obtain ⟨k1, k2, k3, k4, k5⟩ := hl y (by simp)
      have hfit : Fit X σ n y.fr a (Looks ops y.o) := ⟨fun t ht htn => by rw [← c2 t ht htn]; exact hf.slot htn, ho.sane⟩
      refine k2 σ G a w rm _ Q hro hfit hf.size ho c1 (hfr y (by simp)) fun τ w' x hV hp => ?_
      have mem : ∀ x ∈ l1 ++ l2, x ∈ l1 ++ y :: l2 := fun x hx => by
        rcases List.mem_append.1 hx with h | h <;> simp [h]
      have ne : ∀ x ∈ l1 ++ l2, x.j ≠ y.j := fun x hx => by
        rcases List.mem_append.1 hx with h | h
        · exact (pw3 x h y List.mem_cons_self).ne
        · exact Ne.symm ((List.pairwise_cons.1 pw2).1 x h).ne
      have hpW := hp.widen k4 k5
      refine ih (l1 ++ l2) _ _ w' τ _ _ ?_ (by simp [hsz]) ?_ ?_ ?_ (hcl.set hi) (RF.put c3 (hf.mono hp.le) hV) hp.ok c4 ?_ (hro.mono hp.le) ?_
      · simp at hlen ⊢; omega
      · intro x hx
        obtain ⟨q1, q2, q3, q4⟩ := hl x (mem x hx)
        exact ⟨q1, q2, by rw [getD_set_ne true (Ne.symm (ne x hx))]; exact q3, q4⟩
      · intro j hj hu
        by_cases e : y.j = j
        · subst e
          have hys : y.j < listed.size := by omega
          simp [hys] at hu
        · rw [getD_set_ne true e] at hu
          obtain ⟨x, hx, hxj⟩ := hcov j hj hu
          refine ⟨x, ?_, hxj⟩
          rcases List.mem_append.1 hx with h | h
          · exact List.mem_append_left _ h
          · rcases List.mem_cons.1 h with rfl | h
            · exact absurd hxj e
            · exact List.mem_append_right _ h
      · exact hpw.sublist (by simp)
      · intro x hx b hb1 hb2
        have hb := hfr x (mem x hx) b hb1 hb2
        rw [hp.out b ?_]
        · exact hb
        · rcases List.mem_append.1 hx with h | h
          · have := (pw3 x h y List.mem_cons_self).ids; omega
          · have := ((List.pairwise_cons.1 pw2).1 x h).ids; omega
      · intro a' w'' υ g1 g2 g3
        exact hQ a' w'' υ (by rw [← e1]; exact g1) (by rw [g2, put_defers]) (by rw [← e2]; exact hpW.same g3)

end Go.Ev
end

section
set_option linter.unusedVariables false
set_option linter.unusedSimpArgs false
namespace Go.Ev

variable {X : Cx} {σ : Sig} {n : Nat} {fr : Fr} {a : Act} {w : World} {L : Tmp → Prop}

/-! ### where an operation reads -/
def MOp.srcs (m : MOp) (fr : Fr) : List Nat := match m with
  | .ld1 x => bkOf (x.val fr)
  | .ldn x _ => bkOf (x.val fr)
  | .cvbs x => bkOf (x.val fr)
  | .look _ _ _ _ x _ => bkOf (x.val fr)
  | .eqv _ x y _ .p => bkOf (x.val fr) ++ bkOf (y.val fr)
  | _ => []

theorem cbin_saysF {o : Oper} {b : BinOp} {t t' : TypeId} {x y : Operand} {m : MOp} {h : H} {k : Kt} (ho : o.op = .binOp b t x y t') (hc : cbin X.E X.ng n b t x y = some m) {c' : Cl} (hn : m.wr = false) (hk : opK X.fc c' m fr h k = true) : SaysF X n fr o h k (m.srcs fr) m.nw := by
  unfold cbin at hc
  simp only [Option.bind_eq_bind, Option.bind_eq_some_iff, Option.pure_def] at hc
  obtain ⟨d, hd, hc⟩ := hc
  have bin : ∀ mx my, mo X.ng n x = some mx → mo X.ng n y = some my → m = .bin b mx my → SaysF X n fr o h k (m.srcs fr) m.nw := by
    intro mx my hx hy he
    subst he
    exact SaysF.pure (opBin_inv ho hx hy hk)
  have eqc : ∀ neg : Bool, b = (if neg then .neq else .eql) → ceq X.E X.ng n neg t x y = some m → SaysF X n fr o h k (m.srcs fr) m.nw := by
    intro neg hb hc
    unfold ceq at hc
    simp only [Option.bind_eq_bind, Option.bind_eq_some_iff, Option.pure_def] at hc
    obtain ⟨d', hd', mx, hx, my, hy, hc⟩ := hc
    have fin : ∀ kd : EK, kd.fits X.E d' → m = .eqv neg mx my (isConst x || isConst y) kd → SaysF X n fr o h k (m.srcs fr) m.nw := by
      intro kd hkd he
      subst he
      by_cases hp : kd = .p
      · subst hp
        exact opEqv_saysF (by rw [ho, hb]) hd' hkd (by simp) hx hy hk
      · exact SaysF.pure (opEqv_quiet hp (by rw [ho, hb]) hd' hkd (by simp) hx hy hk)
    split at hc
    · cases hc; exact fin .b rfl rfl
    · cases hc; exact fin .s ⟨_, rfl⟩ rfl
    · cases hc; exact fin .m ⟨_, _, rfl⟩ rfl
    · cases hc; exact fin .f ⟨_, _, _, rfl⟩ rfl
    · cases hc; exact fin .i ⟨_, rfl⟩ rfl
    · simp only [Option.bind_eq_some_iff] at hc
      obtain ⟨i, hi, hc⟩ := hc
      cases hc
      by_cases h0 : 0 < i.size
      · exact fin .p ⟨_, i, rfl, hi, h0⟩ (by rw [if_pos h0])
      · exact fin .z ⟨_, rfl⟩ (by rw [if_neg h0])
    · cases hc
  split at hc
  · simp only [Option.bind_eq_some_iff, Option.some.injEq] at hc
    obtain ⟨mx, hx, my, hy, he⟩ := hc
    exact bin mx my hx hy he.symm
  · simp only [Option.bind_eq_some_iff, Option.some.injEq] at hc
    obtain ⟨mx, hx, my, hy, he⟩ := hc
    exact bin mx my hx hy he.symm
  · split at hc
    · exact eqc false rfl hc
    · exact eqc true rfl hc
    · cases hc

theorem cconv_saysF {o : Oper} {s d : TypeId} {x : Operand} {m : MOp} {h : H} {k : Kt} (ho : o.op = .convert s d x) (hc : cconv X.E X.ng n s d x = some m) {c' : Cl} (hn : m.wr = false) (hk : opK X.fc c' m fr h k = true) : SaysF X n fr o h k (m.srcs fr) m.nw := by
  unfold cconv at hc
  simp only [Option.bind_eq_bind, Option.bind_eq_some_iff, Option.pure_def] at hc
  obtain ⟨ds, hs, dd, hd, mx, hx, hc⟩ := hc
  split at hc
  · cases hc; exact SaysF.pure (opCvi_inv ho hs hd hx hk)
  · cases hc; exact SaysF.pure (opCvs_inv ho hs hd hx hk)
  · simp only [Option.bind_eq_some_iff] at hc
    obtain ⟨de, he, hc⟩ := hc
    split at hc
    · cases hc; exact Bool.noConfusion (hn : true = false)
    · cases hc
  · simp only [Option.bind_eq_some_iff] at hc
    obtain ⟨de, he, hc⟩ := hc
    split at hc
    · cases hc; exact opCvbs_saysF ho hs hd he hx hk
    · cases hc
  · simp only [Option.bind_eq_some_iff] at hc
    obtain ⟨de, he, hc⟩ := hc
    split at hc
    · split at hc
      · rename_i heq
        cases hc
        subst heq
        exact Bool.noConfusion (hn : true = false)
      · cases hc
    · cases hc
  · simp only [Option.bind_eq_some_iff] at hc
    obtain ⟨i, hi, hc⟩ := hc
    split at hc
    · rename_i h0; cases hc; exact Bool.noConfusion (hn : true = false)
    · cases hc
  · simp only [Option.bind_eq_some_iff] at hc
    obtain ⟨i, hi, hc⟩ := hc
    split at hc
    · rename_i h0; cases hc; exact Bool.noConfusion (hn : true = false)
    · cases hc
  · cases hc

theorem ccall_saysF {o : Oper} {c : Call} {m : MOp} {h : H} {k : Kt} (ho : o.op = .call c) (hc : ccall X.E X.ng n c = some m) {c' : Cl} (hn : m.wr = false) (hk : opK X.fc c' m fr h k = true) : SaysF X n fr o h k (m.srcs fr) m.nw := by
  unfold ccall at hc
  split at hc
  · rename_i b hb
    unfold cbuiltin at hc
    split at hc
    · rename_i x ha
      simp only [Option.bind_eq_bind, Option.bind_eq_some_iff, Option.pure_def] at hc
      obtain ⟨t, hat, d, hd, hc⟩ := hc
      split at hc
      · simp only [Option.bind_eq_some_iff, Option.some.injEq] at hc
        obtain ⟨mx, hx, rfl⟩ := hc
        exact SaysF.pure (opLen_quiet ho hb ha hat hd (.inl ⟨rfl, rfl⟩) hx hk)
      · simp only [Option.bind_eq_some_iff, Option.some.injEq] at hc
        obtain ⟨mx, hx, rfl⟩ := hc
        exact SaysF.pure (opLen_quiet ho hb ha hat hd (.inr ⟨⟨_, rfl⟩, rfl⟩) hx hk)
      · simp only [Option.bind_eq_some_iff, Option.some.injEq] at hc
        obtain ⟨mx, hx, rfl⟩ := hc
        exact Bool.noConfusion (hn : true = false)
      · cases hc
    · rename_i x ha
      simp only [Option.bind_eq_bind, Option.bind_eq_some_iff, Option.pure_def] at hc
      obtain ⟨t, hat, d, hd, hc⟩ := hc
      split at hc
      · simp only [Option.bind_eq_some_iff, Option.some.injEq] at hc
        obtain ⟨mx, hx, rfl⟩ := hc
        exact SaysF.pure (opCap_inv ho hb ha hat hd hx hk)
      · cases hc
    · rename_i s x ha
      simp only [Option.bind_eq_bind, Option.bind_eq_some_iff, Option.pure_def] at hc
      obtain ⟨t, hat, d, hd, hc⟩ := hc
      split at hc
      · simp only [Option.bind_eq_some_iff] at hc
        obtain ⟨t2, hat2, d2, hd2, i, hi, z, hz, hc⟩ := hc
        split at hc
        · split at hc
          · rename_i hsz
            simp only [Option.bind_eq_some_iff, Option.some.injEq] at hc
            obtain ⟨ms, hs, mx, hx, rfl⟩ := hc
            exact Bool.noConfusion (hn : true = false)
          · cases hc
        · split at hc
          · rename_i hsz
            simp only [Option.bind_eq_some_iff, Option.some.injEq] at hc
            obtain ⟨ms, hs, mx, hx, rfl⟩ := hc
            exact Bool.noConfusion (hn : true = false)
          · cases hc
        · cases hc
      · cases hc
    · rename_i x y ha
      simp only [Option.bind_eq_bind, Option.bind_eq_some_iff, Option.pure_def, Option.some.injEq] at hc
      obtain ⟨mx, hx, my, hy, rfl⟩ := hc
      exact SaysF.pure (opMin_inv ho hb ha hx hy hk)
    · rename_i x y ha
      simp only [Option.bind_eq_bind, Option.bind_eq_some_iff, Option.pure_def, Option.some.injEq] at hc
      obtain ⟨mx, hx, my, hy, rfl⟩ := hc
      exact SaysF.pure (opMax_inv ho hb ha hx hy hk)
    · cases hc; cases hk
    · rename_i x y ha
      simp only [Option.bind_eq_bind, Option.bind_eq_some_iff, Option.pure_def] at hc
      obtain ⟨t, hat, d, hd, hc⟩ := hc
      split at hc
      · simp only [Option.bind_eq_some_iff, Option.some.injEq] at hc
        obtain ⟨i, hi, mx, hx, my, hy, rfl⟩ := hc
        exact Bool.noConfusion (hn : true = false)
      · cases hc
    · rename_i x ha
      simp only [Option.bind_eq_bind, Option.bind_eq_some_iff, Option.pure_def, Option.some.injEq] at hc
      obtain ⟨mx, hx, rfl⟩ := hc
      exact Bool.noConfusion (hn : true = false)
    · rename_i x l ha
      simp only [Option.bind_eq_bind, Option.bind_eq_some_iff, Option.pure_def] at hc
      obtain ⟨t, hat, d, hd, hc⟩ := hc
      split at hc
      · simp only [Option.bind_eq_some_iff] at hc
        obtain ⟨i, hi, hc⟩ := hc
        split at hc
        · rename_i h1
          simp only [Option.bind_eq_some_iff, Option.some.injEq] at hc
          obtain ⟨mx, hx, ml, hl, rfl⟩ := hc
          exact Bool.noConfusion (hn : true = false)
        · cases hc
      · cases hc
    · cases hc
  · rename_i f hf
    split at hc
    · rename_i hmz
      split at hc
      · rename_i x ha
        simp only [Option.bind_eq_bind, Option.bind_eq_some_iff, Option.pure_def] at hc
        obtain ⟨d, hd, hc⟩ := hc
        split at hc
        · simp only [Option.bind_eq_some_iff, Option.some.injEq] at hc
          obtain ⟨mx, hx, rfl⟩ := hc
          obtain ⟨fn, h1, h2, h3, h4, h5⟩ := X.ok.mzok f hmz
          exact Bool.noConfusion (hn : true = false)
        · cases hc
      · cases hc
    · simp only [Option.bind_eq_bind, Option.bind_eq_some_iff, Option.pure_def] at hc
      obtain ⟨q, hq, l, hl, hc⟩ := hc
      split at hc
      · cases hc; exact Bool.noConfusion (hn : true = false)
      · cases hc; exact Bool.noConfusion (hn : true = false)
  · simp only [Option.bind_eq_bind, Option.bind_eq_some_iff, Option.pure_def, Option.some.injEq] at hc
    obtain ⟨_, _, _, _, rfl⟩ := hc; exact Bool.noConfusion (hn : true = false)
  · simp only [Option.bind_eq_bind, Option.bind_eq_some_iff, Option.pure_def, Option.some.injEq] at hc
    obtain ⟨_, _, _, _, rfl⟩ := hc; exact Bool.noConfusion (hn : true = false)

theorem opK_saysF {o : Oper} {m : MOp} {h : H} {k : Kt} (hc : cop X.E X.ng n o = some m) {c' : Cl} (hn : m.wr = false) (hk : opK X.fc c' m fr h k = true) : SaysF X n fr o h k (m.srcs fr) m.nw := by
  unfold cop at hc
  split at hc
  case h_1 x ho =>
    simp only [Option.bind_eq_bind, Option.bind_eq_some_iff, Option.pure_def, Option.some.injEq] at hc
    obtain ⟨mx, hx, rfl⟩ := hc
    exact SaysF.pure (opMv_inv (x := x) (fun ρ => by simp only [execOp, ho]) (by rw [ho]; simp [Op.operands]) hx hk)
  case h_2 x ho =>
    simp only [Option.bind_eq_bind, Option.bind_eq_some_iff, Option.pure_def, Option.some.injEq] at hc
    obtain ⟨mx, hx, rfl⟩ := hc
    exact SaysF.pure (opMv_inv (x := x) (fun ρ => by simp only [execOp, ho]) (by rw [ho]; simp [Op.operands]) hx hk)
  case h_3 c x y ho =>
    simp only [Option.bind_eq_bind, Option.bind_eq_some_iff, Option.pure_def, Option.some.injEq] at hc
    obtain ⟨mc, h1, mx, h2, my, h3, rfl⟩ := hc
    exact SaysF.pure (opPick_inv ho h1 h2 h3 hk)
  case h_4 e ho =>
    simp only [Option.bind_eq_bind, Option.bind_eq_some_iff, Option.pure_def, Option.some.injEq] at hc
    obtain ⟨i, hi, z, hz, rfl⟩ := hc
    exact opAlloc_saysF ho hi hz hk
  case h_5 e x ho =>
    simp only [Option.bind_eq_bind, Option.bind_eq_some_iff, Option.pure_def, Option.some.injEq] at hc
    obtain ⟨mx, hx, rfl⟩ := hc
    exact opBox_saysF ho hx hk
  case h_6 t ps ho =>
    simp only [Option.bind_eq_bind, Option.bind_eq_some_iff, Option.pure_def] at hc
    obtain ⟨i, hi, zv, hzv, hc⟩ := hc
    split at hc
    · simp only [Option.bind_eq_some_iff] at hc
      obtain ⟨z, hz, d, hd, hc⟩ := hc
      split at hc
      · split at hc
        · rename_i hall
          simp only [Option.bind_eq_some_iff, Option.some.injEq] at hc
          obtain ⟨ms, hms, rfl⟩ := hc
          exact SaysF.pure (opBuild_struct ho hi hzv hz hd hall hms hk)
        · cases hc
      · simp only [Option.bind_eq_some_iff, Option.some.injEq] at hc
        obtain ⟨j, hj, ms, hms, rfl⟩ := hc
        exact SaysF.pure (opBuild_array ho hi hzv hz hd hj hms hk)
      · cases hc
    · cases hc
  case h_7 t len ps ho =>
    simp only [Option.bind_eq_bind, Option.bind_eq_some_iff, Option.pure_def] at hc
    obtain ⟨d, hd, hc⟩ := hc
    split at hc
    · simp only [Option.bind_eq_some_iff] at hc
      obtain ⟨i, hi, z, hz, hc⟩ := hc
      split at hc
      · rename_i hsz
        simp only [Option.bind_eq_some_iff, Option.some.injEq] at hc
        obtain ⟨ms, hms, rfl⟩ := hc
        exact opBsl_saysF ho hd hi hz hsz.1 hsz.2 hms hk
      · cases hc
    · cases hc
  case h_8 t x ho =>
    simp only [Option.bind_eq_bind, Option.bind_eq_some_iff, Option.pure_def] at hc
    obtain ⟨d, hd, hc⟩ := hc
    split at hc
    · rename_i hag
      simp only [Option.bind_eq_some_iff, Option.some.injEq] at hc
      obtain ⟨mx, hx, i, hi, rfl⟩ := hc
      exact opLdn_saysF ho hd hag hi hx hk
    · rename_i hag
      simp only [Option.bind_eq_some_iff, Option.some.injEq] at hc
      obtain ⟨mx, hx, rfl⟩ := hc
      exact opLd1_saysF ho hd (by simpa using hag) hx hk
  case h_9 t x v ho =>
    simp only [Option.bind_eq_bind, Option.bind_eq_some_iff, Option.pure_def, Option.some.injEq] at hc
    obtain ⟨i, hi, mx, hx, mv, hv, rfl⟩ := hc
    exact Bool.noConfusion (hn : true = false)
  case h_10 x ho =>
    simp only [Option.bind_eq_bind, Option.bind_eq_some_iff, Option.pure_def, Option.some.injEq] at hc
    obtain ⟨mx, hx, rfl⟩ := hc
    exact SaysF.pure (opNilc_inv ho hx hk)
  case h_11 b t x y t' ho => exact cbin_saysF ho hc hn hk
  case h_12 u t x ho =>
    split at hc
    · simp only [Option.bind_eq_bind, Option.bind_eq_some_iff, Option.pure_def, Option.some.injEq] at hc
      obtain ⟨mx, hx, rfl⟩ := hc
      exact SaysF.pure (opNot_inv ho hx hk)
    · simp only [Option.bind_eq_bind, Option.bind_eq_some_iff, Option.pure_def, Option.some.injEq] at hc
      obtain ⟨mx, hx, rfl⟩ := hc
      exact SaysF.pure (opNeg_inv ho hx hk)
    · simp only [Option.bind_eq_bind, Option.bind_eq_some_iff, Option.pure_def, Option.some.injEq] at hc
      obtain ⟨mx, hx, rfl⟩ := hc
      exact SaysF.pure (opCpl_inv ho hx hk)
    · cases hc
  case h_13 s d x ho => exact cconv_saysF ho hc hn hk
  case h_14 t x ho =>
    simp only [Option.bind_eq_bind, Option.bind_eq_some_iff, Option.pure_def] at hc
    obtain ⟨d, hd, hc⟩ := hc
    split at hc
    · cases hc
    · rename_i hni
      simp only [Option.bind_eq_some_iff, Option.some.injEq] at hc
      obtain ⟨mx, hx, rfl⟩ := hc
      exact SaysF.pure (opMkif_inv ho hd hni hx hk)
  case h_15 f p q ho =>
    simp only [Option.bind_eq_bind, Option.bind_eq_some_iff, Option.pure_def, Option.some.injEq] at hc
    obtain ⟨mp, hp, mq, hq, rfl⟩ := hc
    exact SaysF.pure (opMkfn_inv ho hp hq hk)
  case h_16 t ho =>
    cases hc
    exact opMkmap_saysF ho hk
  case h_17 t l c ho =>
    simp only [Option.bind_eq_bind, Option.bind_eq_some_iff, Option.pure_def] at hc
    obtain ⟨d, hd, hc⟩ := hc
    split at hc
    · simp only [Option.bind_eq_some_iff] at hc
      obtain ⟨i, hi, z, hz, hc⟩ := hc
      split at hc
      · rename_i hsz
        simp only [Option.bind_eq_some_iff, Option.some.injEq] at hc
        obtain ⟨ml, hl, mc, hcc, rfl⟩ := hc
        exact opMksl_saysF ho hd hi hz hsz.1 hsz.2 hl hcc hk
      · cases hc
    · cases hc
  case h_18 t x lo hi mx ho =>
    simp only [Option.bind_eq_bind, Option.bind_eq_some_iff, Option.pure_def] at hc
    obtain ⟨d, hd, hc⟩ := hc
    split at hc
    · split at hc
      · rename_i hnone
        simp only [Option.bind_eq_some_iff, Option.some.injEq] at hc
        obtain ⟨m1, h1, m2, h2, m3, h3, rfl⟩ := hc
        have : mx = none := by cases mx <;> simp_all
        subst this
        exact SaysF.pure (opSlstr_inv ho hd h1 h2 h3 hk)
      · cases hc
    · simp only [Option.bind_eq_some_iff, Option.some.injEq] at hc
      obtain ⟨i, hi', m1, h1, m2, h2, m3, h3, m4, h4, rfl⟩ := hc
      exact SaysF.pure (opSlsl_inv ho hd hi' h1 h2 h3 h4 hk)
    · cases hc
  case h_19 t x f ho =>
    unfold cfield at hc
    simp only [Option.bind_eq_bind, Option.bind_eq_some_iff, Option.pure_def] at hc
    obtain ⟨⟨fd, i, d⟩, ⟨dt, hdt, hq⟩, hc⟩ := hc
    split at hq
    · simp only [Option.bind_eq_some_iff, Option.some.injEq, Prod.mk.injEq] at hq
      obtain ⟨fd', hfd, i', hi, d', hd, rfl, rfl, rfl⟩ := hq
      simp only at hc
      split at hc
      · rename_i h0
        simp only [Option.bind_eq_some_iff, Option.some.injEq] at hc
        obtain ⟨mx, hx, rfl⟩ := hc
        exact SaysF.pure (opFad_inv ho hdt hfd hi h0 hx hk)
      · cases hc
    · cases hq
  case h_20 t x f ho =>
    unfold cfield at hc
    simp only [Option.bind_eq_bind, Option.bind_eq_some_iff, Option.pure_def] at hc
    obtain ⟨⟨fd, i, d⟩, ⟨dt, hdt, hq⟩, hc⟩ := hc
    split at hq
    · simp only [Option.bind_eq_some_iff, Option.some.injEq, Prod.mk.injEq] at hq
      obtain ⟨fd', hfd, i', hi, d', hd, rfl, rfl, rfl⟩ := hq
      simp only at hc
      split at hc
      · rename_i hag
        simp only [Option.bind_eq_some_iff, Option.some.injEq] at hc
        obtain ⟨mx, hx, rfl⟩ := hc
        exact SaysF.pure (opFldn_inv ho hdt hfd hd hi hag hx hk)
      · rename_i hag
        simp only [Option.bind_eq_some_iff, Option.some.injEq] at hc
        obtain ⟨mx, hx, rfl⟩ := hc
        exact SaysF.pure (opFld_inv ho hdt hfd hd (by simpa using hag) hx hk)
    · cases hq
  case h_21 t x i ho =>
    simp only [Option.bind_eq_bind, Option.bind_eq_some_iff, Option.pure_def] at hc
    obtain ⟨d, hd, hc⟩ := hc
    split at hc
    · simp only [Option.bind_eq_some_iff, Option.some.injEq] at hc
      obtain ⟨j, hj, mx, hx, mi, hi, rfl⟩ := hc
      exact SaysF.pure (opIad_inv ho hd hj hx hi hk)
    · simp only [Option.bind_eq_some_iff, Option.some.injEq] at hc
      obtain ⟨j, hj, mx, hx, mi, hi, rfl⟩ := hc
      exact SaysF.pure (opIada_inv ho hd hj hx hi hk)
    · cases hc
  case h_22 t x i ho =>
    simp only [Option.bind_eq_bind, Option.bind_eq_some_iff, Option.pure_def] at hc
    obtain ⟨d, hd, hc⟩ := hc
    split at hc
    · simp only [Option.bind_eq_some_iff, Option.some.injEq] at hc
      obtain ⟨mx, hx, mi, hi, rfl⟩ := hc
      exact SaysF.pure (opIxs_inv ho hd hx hi hk)
    · simp only [Option.bind_eq_some_iff] at hc
      obtain ⟨j, hj, de, hde, hc⟩ := hc
      split at hc
      · rename_i hsz
        simp only [Option.bind_eq_some_iff, Option.some.injEq] at hc
        obtain ⟨mx, hx, mi, hi, rfl⟩ := hc
        exact SaysF.pure (opIxa_inv ho hd hj hsz.2 hde hsz.1 hx hi hk)
      · cases hc
    · cases hc
  case h_23 t x i ok ho =>
    simp only [Option.bind_eq_bind, Option.bind_eq_some_iff, Option.pure_def] at hc
    obtain ⟨d, hd, hc⟩ := hc
    split at hc
    · simp only [Option.bind_eq_some_iff, Option.some.injEq] at hc
      obtain ⟨j, hj, z, hz, kd, hkd, cz, hcz, mx, hx, mi, hi, rfl⟩ := hc
      exact opLook_saysF ho hd hj hz hcz hkd hx hi hk
    · cases hc
  case h_24 t m k v ho =>
    simp only [Option.bind_eq_bind, Option.bind_eq_some_iff, Option.pure_def] at hc
    obtain ⟨d, hd, hc⟩ := hc
    split at hc
    · simp only [Option.bind_eq_some_iff, Option.some.injEq] at hc
      obtain ⟨kd, hkd, m1, h1, m2, h2, m3, h3, rfl⟩ := hc
      exact Bool.noConfusion (hn : true = false)
    · cases hc
  case h_25 t m k v ho =>
    simp only [Option.bind_eq_bind, Option.bind_eq_some_iff, Option.pure_def] at hc
    obtain ⟨d, hd, hc⟩ := hc
    split at hc
    · simp only [Option.bind_eq_some_iff, Option.some.injEq] at hc
      obtain ⟨kd, hkd, m1, h1, m2, h2, m3, h3, rfl⟩ := hc
      exact Bool.noConfusion (hn : true = false)
    · cases hc
  case h_26 t x ho =>
    simp only [Option.bind_eq_bind, Option.bind_eq_some_iff, Option.pure_def] at hc
    obtain ⟨d, hd, hc⟩ := hc
    split at hc
    · simp only [Option.bind_eq_some_iff, Option.some.injEq] at hc
      obtain ⟨mx, hx, rfl⟩ := hc
      exact Bool.noConfusion (hn : true = false)
    · simp only [Option.bind_eq_some_iff, Option.some.injEq] at hc
      obtain ⟨mx, hx, rfl⟩ := hc
      exact Bool.noConfusion (hn : true = false)
    · cases hc
  case h_27 it s ho =>
    simp only [Option.bind_eq_bind, Option.bind_eq_some_iff, Option.pure_def, Option.some.injEq] at hc
    obtain ⟨mx, hx, rfl⟩ := hc
    cases s
    · exact Bool.noConfusion (hn : true = false)
    · exact Bool.noConfusion (hn : true = false)
  case h_28 it ho =>
    simp only [Option.bind_eq_bind, Option.bind_eq_some_iff, Option.pure_def, Option.some.injEq] at hc
    obtain ⟨mx, hx, rfl⟩ := hc
    exact Bool.noConfusion (hn : true = false)
  case h_29 x xt t ok ho =>
    simp only [Option.bind_eq_bind, Option.bind_eq_some_iff, Option.pure_def] at hc
    obtain ⟨i, hi, z, hz, d, hd, hc⟩ := hc
    split at hc
    · cases hc
    · rename_i hni
      simp only [Option.bind_eq_some_iff, Option.some.injEq] at hc
      obtain ⟨mx, hx, cz, hcz, rfl⟩ := hc
      exact Bool.noConfusion (hn : true = false)
  case h_30 x i ho =>
    simp only [Option.bind_eq_bind, Option.bind_eq_some_iff, Option.pure_def, Option.some.injEq] at hc
    obtain ⟨mx, hx, rfl⟩ := hc
    exact SaysF.pure (opExt_inv ho hx hk)
  case h_31 c ho => exact ccall_saysF ho hc hn hk
  case h_32 c ho =>
    split at hc
    · simp only [Option.bind_eq_bind, Option.bind_eq_some_iff, Option.pure_def, Option.some.injEq] at hc
      obtain ⟨_, _, _, _, rfl⟩ := hc; cases hk
    · cases hc
  case h_33 x ho =>
    simp only [Option.bind_eq_bind, Option.bind_eq_some_iff, Option.pure_def, Option.some.injEq] at hc
    obtain ⟨_, _, rfl⟩ := hc; cases hk
  case h_34 => cases hc

end Go.Ev
end

section
set_option linter.unusedVariables false
set_option linter.unusedSimpArgs false
namespace Go.Ev

variable {X : Cx} {σ : Sig} {n : Nat} {ro : Option Nat} {fr : Fr} {ds : List Df} {h : H} {a : Act} {w : World}

/-! ### one operation of a region that draws its order -/
theorem blt_inv {a b : Nat} (h : Nat.blt a b = true) : a < b := Nat.le_of_ble_eq_true h
/-- is the block of a value older than that? -/
noncomputable def oldA (h : H) (c b : Nat) (k : Bool) : Bool := getB h b fun bl => chk (Nat.blt bl.ts c) k
noncomputable def oldB (h : H) (c : Nat) (a : AV) (k : Bool) : Bool := match a with
  | .ptr b _ => oldA h c b k
  | .sl b _ _ _ _ => oldA h c b k
  | .map b => oldA h c b k
  | _ => k
theorem oldB_inv {c : Nat} {a : AV} {k : Bool} (hk : oldB h c a k = true) : k = true ∧ ∀ b ∈ bkOf a, ∃ bl, h.get b = some bl ∧ bl.ts < c := by
  have key : ∀ b, oldA h c b k = true → k = true ∧ ∀ b' ∈ [b], ∃ bl, h.get b' = some bl ∧ bl.ts < c := fun b hk => by
    obtain ⟨bl, hb, hk⟩ := getB_inv hk
    obtain ⟨h1, hk⟩ := chk_eq hk
    refine ⟨hk, fun b' hb' => ?_⟩
    cases List.mem_singleton.1 hb'
    exact ⟨bl, hb, blt_inv h1⟩
  unfold oldB at hk
  split at hk
  · exact key _ hk
  · exact key _ hk
  · exact key _ hk
  · rename_i h1 h2 h3
    refine ⟨hk, fun b hb => ?_⟩
    unfold bkOf at hb
    split at hb
    · exact absurd rfl (h1 _ _)
    · exact absurd rfl (h2 _ _ _ _ _)
    · exact absurd rfl (h3 _)
    · cases hb
noncomputable def oldK (h : H) (c : Nat) (fr : Fr) (m : MOp) (k : Bool) : Bool := match m with
  | .ld1 x => x.getK fr fun a => oldB h c a k
  | .ldn x _ => x.getK fr fun a => oldB h c a k
  | .cvbs x => x.getK fr fun a => oldB h c a k
  | .look _ _ _ _ x _ => x.getK fr fun a => oldB h c a k
  | .eqv _ x y _ .p => x.getK fr fun a => oldB h c a (y.getK fr fun a => oldB h c a k)
  | _ => k
theorem oldK_inv {c : Nat} {m : MOp} {k : Bool} (hk : oldK h c fr m k = true) : k = true ∧ ∀ b ∈ m.srcs fr, ∃ bl, h.get b = some bl ∧ bl.ts < c := by
  unfold oldK at hk
  split at hk
  · rw [MO.getK_eq] at hk; exact oldB_inv hk
  · rw [MO.getK_eq] at hk; exact oldB_inv hk
  · rw [MO.getK_eq] at hk; exact oldB_inv hk
  · rw [MO.getK_eq] at hk; exact oldB_inv hk
  · rw [MO.getK_eq] at hk
    obtain ⟨hk, h1⟩ := oldB_inv hk
    rw [MO.getK_eq] at hk
    obtain ⟨hk, h2⟩ := oldB_inv hk
    refine ⟨hk, fun b hb => ?_⟩
    rcases List.mem_append.1 hb with hb | hb
    · exact h1 b hb
    · exact h2 b hb
  · rename_i h1 h2 h3 h4 h5
    refine ⟨hk, fun b hb => ?_⟩
    unfold MOp.srcs at hb
    split at hb
    · exact absurd rfl (h1 _)
    · exact absurd rfl (h2 _ _)
    · exact absurd rfl (h3 _)
    · exact absurd rfl (h4 _ _ _ _ _ _)
    · exact absurd rfl (h5 _ _ _ _)
    · cases hb
noncomputable def nthN (cs : List Nat) : Nat → (Nat → Bool) → Bool :=
  List.rec (motive := fun _ => Nat → (Nat → Bool) → Bool) (fun _ _ => false) (fun c _ ih q k => Nat.rec (motive := fun _ => Bool) (k c) (fun q _ => ih q k) q) cs
theorem nthN_inv {k : Nat → Bool} : ∀ {cs : List Nat} {q : Nat}, nthN cs q k = true → ∃ c, cs[q]? = some c ∧ k c = true
  | [], q, h => by cases h
  | c :: cs, 0, h => ⟨c, rfl, h⟩
  | c :: cs, q + 1, h => by
    obtain ⟨c', h1, h2⟩ := nthN_inv (cs := cs) (q := q) h
    exact ⟨c', by simpa using h1, h2⟩
noncomputable def bdK (bd : Option Nat) (cs : List Nat) (h : H) (fr : Fr) (m : MOp) (k : Bool) : Bool :=
  Option.rec (motive := fun _ => Bool) k (fun q => nthN cs q fun c => oldK h c fr m k) bd
theorem bdK_inv {bd : Option Nat} {cs : List Nat} {m : MOp} {k : Bool} (hk : bdK bd cs h fr m k = true) : k = true ∧ ∀ q, bd = some q → ∃ c, cs[q]? = some c ∧ ∀ b ∈ m.srcs fr, ∃ bl, h.get b = some bl ∧ bl.ts < c := by
  cases bd with
  | none => exact ⟨hk, fun q hq => by cases hq⟩
  | some q =>
    obtain ⟨c, h1, hk⟩ := nthN_inv hk
    obtain ⟨hk, h2⟩ := oldK_inv hk
    exact ⟨hk, fun q' hq => by cases hq; exact ⟨c, h1, h2⟩⟩
noncomputable def evDr (fc : List Fact) (cl : Cl) (m : MOper) (bd : Option Nat) (cs : List Nat) (fr : Fr) (h : H) (k : Kt) : Bool :=
  MOper.rec (motive := fun _ => Bool) (fun dst op g => gK g fr (bdK bd cs h fr op (opK fc cl op fr h k)) (k nothing h)) m

/-- what is known of a step beside what it does -/
structure Foot (m : MOp) (s : Stp) : Prop where
  quiet : m.loud = false → (∀ b, s.D b = none) ∧ ∀ b, s.W b = none
  rd : m.rd = true → ∀ b, s.W b = none
  nw : m.nw = true → (∀ b, s.D b = none) ∧ ∀ b, s.W b ≠ none → s.lo ≤ b
theorem Foot.nothing {m : MOp} {lo hi : Nat} {v : AV} : Foot m ⟨fun _ => none, noCh, lo, hi, v⟩ := ⟨fun _ => ⟨fun _ => rfl, fun _ => rfl⟩, fun _ _ => rfl, fun _ => ⟨fun _ => rfl, fun _ h => absurd rfl h⟩⟩
theorem quiet_srcs {m : MOp} (h : m.loud = false) : m.srcs fr = [] ∧ m.nw = false := by
  cases m with
  | eqv neg x y lit kd => cases kd <;> first | exact ⟨rfl, rfl⟩ | cases h
  | len kd x => cases kd <;> first | exact ⟨rfl, rfl⟩ | cases h
  | _ => first | exact ⟨rfl, rfl⟩ | cases h
theorem rd_nw {m : MOp} (h : m.rd = true) : m.nw = false := by
  cases m <;> first | rfl | cases h
theorem nw_srcs {m : MOp} (h : m.nw = true) : m.srcs fr = [] := by
  cases m <;> first | rfl | cases h

theorem evDr_inv {cl : Cl} (hcl : ClOK X cl) {ops : Array Oper} {j : Nat} {o : Oper} {m : MOper} {bd : Option Nat} {cs : List Nat} {k : Kt} (ho : ops[j]? = some o) (hc : coper X.E X.ng n ops o = some m) (hk : evDr X.fc cl m bd cs fr h k = true) :
    cdst n o.dst = some m.dst ∧ ∃ s h', TurnD h s h' ∧ k s.v h' = true ∧ OpJ X n ro ops j o fr s ∧ Foot m.op s ∧ (m.op.rd = true → ∀ q, bd = some q → ∀ b, s.D b ≠ none → ∃ c bl, cs[q]? = some c ∧ h.get b = some bl ∧ bl.ts < c) := by
  unfold coper at hc
  split at hc
  · rename_i d op g h1 h2 h3
    split at hc
    · rename_i hcall
      cases hc
      refine ⟨h1, ?_⟩
      change gK g fr (bdK bd cs h fr op (opK X.fc cl op fr h k)) (k nothing h) = true at hk
      have hcall : op.isCall = true → isCallOp o.op = true := fun e => by
        simp only [MOp.fits, Bool.and_eq_true] at hcall
        simpa [e] using hcall.1
      show ∃ s h', TurnD h s h' ∧ k s.v h' = true ∧ OpJ X n ro ops j o fr s ∧ Foot op s ∧ (op.rd = true → ∀ q, bd = some q → ∀ b, s.D b ≠ none → ∃ c bl, cs[q]? = some c ∧ h.get b = some bl ∧ bl.ts < c)
      -- wanted
      have yes : bdK bd cs h fr op (opK X.fc cl op fr h k) = true → (∀ (σ : Sig) (a : Act), Fit X σ n fr a (Looks ops o) → a.tmps.size = n → Region.wanted o (yielded ops a.tmps) = true) →
          ∃ s h', TurnD h s h' ∧ k s.v h' = true ∧ OpJ X n ro ops j o fr s ∧ Foot op s ∧ (op.rd = true → ∀ q, bd = some q → ∀ b, s.D b ≠ none → ∃ c bl, cs[q]? = some c ∧ h.get b = some bl ∧ bl.ts < c) := by
        intro hk hw
        obtain ⟨hk, hb⟩ := bdK_inv hk
        have wrap : ∀ {s : Stp}, OpD X n ro fr o s → OpJ X n ro ops j o fr s := fun hD σ G a w rm K Q hro hf hsz hok hext hfr hK => by
          unfold wpOpIn
          simp only [ho, hw σ a hf hsz, if_true]
          exact hD σ G a w rm K Q hro (hf.weak fun t ht => looks_op ht) hok hext hfr hK
        cases hwr : op.wr with
        | true =>
          obtain ⟨s, h', t, hk, hD⟩ := opK_saysD (ro := ro) hcl h2 hcall hk
          have e : op.loud = true ∧ op.rd = false ∧ op.nw = false := by simpa [MOp.wr] using hwr
          exact ⟨s, h', t, hk, wrap hD, ⟨fun q => absurd (e.1.symm.trans q) (by simp), fun q => absurd (e.2.1.symm.trans q) (by simp), fun q => absurd (e.2.2.symm.trans q) (by simp)⟩, fun q => absurd (e.2.1.symm.trans q) (by simp)⟩
        | false =>
          obtain ⟨s, h', t, hk, he, hS, hN⟩ := opK_saysF h2 hwr hk
          -- the same step, as an operation does it
          have hD : OpD X n ro fr o s := by
            intro σ G a w rm K Q hro hf hok hext hfr hK
            refine ⟨fun _ _ => trivial, ?_⟩
            obtain ⟨x, y, w', τ, hr, hy, hV, hp⟩ := he σ G a w hf hok hext hfr
            have hsem := semAt_of (by rcases hy with rfl | ⟨rfl, _⟩; exact .inl ⟨_, rfl⟩; exact .inr rfl) hr rm
            have hw : (Fw rm).round = rm := rfl
            rw [hw, hsem]
            rcases hy with rfl | ⟨rfl, rfl⟩
            · exact hK τ w' x hV hp
            · exact hK τ w' undef hV hp
          have dn : op.srcs fr = [] → ∀ b, s.D b = none := fun q b => by
            by_cases e : s.D b = none
            · exact e
            · have := hS b e; rw [q] at this; cases this
          have wn : op.nw = false → ∀ b, s.W b = none := fun q b => by
            by_cases e : s.W b = none
            · exact e
            · have := (hN b e).2; rw [q] at this; cases this
          refine ⟨s, h', t.d, hk, wrap hD, ⟨fun q => ⟨dn (quiet_srcs q).1, wn (quiet_srcs (fr := fr) q).2⟩, fun q => wn (rd_nw q), fun q => ⟨dn (nw_srcs q), fun b hb => (hN b hb).1⟩⟩, fun _ q hq => ?_⟩
          obtain ⟨c, hc1, hc2⟩ := hb q hq
          exact fun b hb => let ⟨bl, e1, e2⟩ := hc2 b (hS b hb); ⟨c, bl, hc1, e1, e2⟩
      -- not wanted
      have no : k nothing h = true → (∀ (σ : Sig) (a : Act), Fit X σ n fr a (Looks ops o) → a.tmps.size = n → Region.wanted o (yielded ops a.tmps) = false) →
          ∃ s h', TurnD h s h' ∧ k s.v h' = true ∧ OpJ X n ro ops j o fr s ∧ Foot op s ∧ (op.rd = true → ∀ q, bd = some q → ∀ b, s.D b ≠ none → ∃ c bl, cs[q]? = some c ∧ h.get b = some bl ∧ bl.ts < c) := by
        intro hk hw
        refine ⟨⟨fun _ => none, noCh, h.next, h.next, nothing⟩, h, ⟨fun _ _ h => (by cases h), (by rw [app_no]), rfl, rfl, Mv.refl _, fun _ h => absurd rfl h, fun _ _ h => (by cases h)⟩, hk, fun σ G a w rm K Q hro hf hsz hok hext hfr hK => ?_, Foot.nothing, fun hr q hq => ?_⟩
        · unfold wpOpIn
          simp only [ho, hw σ a hf hsz, Bool.false_eq_true, if_false]
          exact ⟨fun _ _ => trivial, hK σ w undef nothing_V (Post.refl hok _)⟩
        · exact fun b hb => absurd rfl hb
      unfold cguard at h3
      split at h3
      · rename_i hg
        cases h3
        exact yes hk fun σ a _ _ => by simp [Region.wanted, hg]
      · rename_i q want hg
        split at h3
        · rename_i t ht
          simp only [Option.map_eq_some_iff] at h3
          obtain ⟨s, h4, rfl⟩ := h3
          obtain ⟨h5, h6, rfl⟩ := sl_inv h4
          have lk : Looks ops o t := by
            unfold Looks Oper.looksAt
            exact List.mem_append_right _ (by simp [hg, ht])
          have val : ∀ (σ : Sig) (a : Act), Fit X σ n fr a (Looks ops o) → a.tmps.size = n → ∃ x, a.tmps[t]? = some x ∧ V σ (F3.at fr (slot t)) x := fun σ a hf hsz => by
            have hlt : t < a.tmps.size := by rw [hsz]; exact h5
            refine ⟨a.tmps[t], by simp [hlt], ?_⟩
            have := hf.slot t lk h5
            simpa [Array.getD, hlt] using this
          change F3.getK (slot t) fr (fun a => match a with | .bool b => sel b (sel want (bdK bd cs h fr op (opK X.fc cl op fr h k)) (k nothing h)) (sel want (k nothing h) (bdK bd cs h fr op (opK X.fc cl op fr h k))) | .tup _ => k nothing h | _ => false) = true at hk
          rw [F3.getK_eq] at hk
          split at hk
          · rename_i b hb
            have yl : ∀ (σ : Sig) (a : Act), Fit X σ n fr a (Looks ops o) → a.tmps.size = n → Region.wanted o (yielded ops a.tmps) = (b == want) := fun σ a hf hsz => by
              obtain ⟨x, h7, h8⟩ := val σ a hf hsz
              rw [hb] at h8
              cases h8.bool_inv
              simp [Region.wanted, hg, yielded, ht, h7]
            rcases sel_eq hk with ⟨e1, hk1⟩ | ⟨e1, hk1⟩
            · rcases sel_eq hk1 with ⟨e2, hk2⟩ | ⟨e2, hk2⟩
              · exact yes hk2 fun σ a hf hsz => by rw [yl σ a hf hsz, e1, e2]; rfl
              · exact no hk2 fun σ a hf hsz => by rw [yl σ a hf hsz, e1, e2]; rfl
            · rcases sel_eq hk1 with ⟨e2, hk2⟩ | ⟨e2, hk2⟩
              · exact no hk2 fun σ a hf hsz => by rw [yl σ a hf hsz, e1, e2]; rfl
              · exact yes hk2 fun σ a hf hsz => by rw [yl σ a hf hsz, e1, e2]; rfl
          · rename_i l hb
            refine no hk fun σ a hf hsz => ?_
            obtain ⟨x, h7, h8⟩ := val σ a hf hsz
            rw [hb] at h8
            obtain ⟨cs, rfl, _⟩ := h8.tup_inv
            simp [Region.wanted, hg, yielded, ht, h7]
          · cases hk
        · cases h3
    · cases hc
  · cases hc

end Go.Ev
end

section
set_option linter.unusedVariables false
set_option linter.unusedSimpArgs false
namespace Go.Ev

variable {X : Cx} {σ : Sig} {n : Nat} {ro : Option Nat} {fr : Fr} {ds : List Df} {h : H} {a : Act} {w : World}

/-! ### changes, seen from a memory that holds more -/
/-- nothing lies under these numbers -/
def Free (G : Hp) (lo hi : Nat) : Prop := ∀ b, lo ≤ b → b < hi → G b = none
theorem Ok.free {G : Hp} {lo hi : Nat} (ho : Ok X σ G w) (hf : ∀ b, lo ≤ b → b < hi → σ.bk b = none) : Free G lo hi := fun b h1 h2 => by
  cases hg : G b with
  | none => rfl
  | some x => obtain ⟨B, h3, _⟩ := ho.rel b x hg; rw [hf b h1 h2] at h3; cases h3
theorem app_turnF {h h' : H} {s : Stp} (t : TurnD h s h') {G : Hp} (he : Ext G h.get) (hf : Free G h.next h'.next) : app s.W G = app (diff h.get h'.get) G := by
  funext b
  unfold app diff
  cases e : s.W b with
  | none =>
    have : h'.get b = h.get b := by rw [t.get]; unfold app; rw [e]; rfl
    simp [this]
  | some y =>
    have hy : h'.get b = y := by rw [t.get]; unfold app; rw [e]; rfl
    rw [hy]
    by_cases hb : y = h.get b
    · rw [if_pos hb]
      simp only [Option.getD_some, Option.getD_none]
      cases hx : h.get b with
      | some x => rw [he b x hx, hb, hx]
      | none =>
        rw [hb, hx]
        rcases t.dom b (by rw [e]; simp) with h1 | ⟨h1, h2⟩
        · exfalso
          cases hd : s.D b with
          | none => exact h1 hd
          | some z => rw [t.sub b z hd] at hx; cases hx
        · exact (hf b (by rw [← t.lo]; exact h1) (by rw [← t.hi]; exact h2)).symm
    · rw [if_neg hb]
theorem app_transF {h h' h'' : H} (p : Mv h h') {G : Hp} (he : Ext G h.get) (hf : Free G h.next h'.next) : app (diff h'.get h''.get) (app (diff h.get h'.get) G) = app (diff h.get h''.get) G := by
  funext b
  unfold app diff
  by_cases e1 : h''.get b = h'.get b
  · rw [if_pos e1]
    by_cases e2 : h'.get b = h.get b
    · rw [if_pos e2, if_pos (e1.trans e2)]; rfl
    · rw [if_neg e2, if_neg (by rw [e1]; exact e2), e1]; rfl
  · rw [if_neg e1]
    by_cases e3 : h''.get b = h.get b
    · rw [if_pos e3]
      simp only [Option.getD_some, Option.getD_none]
      cases hx : h.get b with
      | some x => rw [e3, hx, he b x hx]
      | none =>
        have e2 : h'.get b ≠ h.get b := fun e => e1 (by rw [e3, e])
        rcases p.dom b e2 with h1 | ⟨h1, h2⟩
        · exact absurd hx h1
        · rw [e3, hx, hf b h1 h2]
    · rw [if_neg e3]; rfl
theorem Free.next {h h' : H} (p : Mv h h') {G : Hp} {hi : Nat} (he : Ext G h.get) (hf : Free G h.next hi) : Free (app (diff h.get h'.get) G) h'.next hi := by
  intro b h1 h2
  have hb : G b = none := hf b (Nat.le_trans p.next h1) h2
  unfold app diff
  by_cases e : h'.get b = h.get b
  · rw [if_pos e]; exact hb
  · rcases p.dom b e with h3 | ⟨h3, h4⟩
    · exfalso
      cases hx : h.get b with
      | none => exact h3 hx
      | some x => rw [he b x hx] at hb; cases hb
    · omega
theorem Free.sub {G : Hp} {lo hi lo' hi' : Nat} (h : Free G lo hi) (h1 : lo ≤ lo') (h2 : hi' ≤ hi) : Free G lo' hi' := fun b p q => h b (Nat.le_trans h1 p) (Nat.lt_of_lt_of_le q h2)

/-! ### a region that draws its order, for the kernel -/
noncomputable def tickK (h : H) (k : H → Bool) : Bool := H.rec (motive := fun _ => Bool) (fun t next clk => fN (Nat.succ clk) fun c => k ⟨t, next, c⟩) h
def tick (h : H) : H := ⟨h.t, h.next, h.clk + 1⟩
theorem tickK_eq {k : H → Bool} : tickK h k = k (tick h) := by
  cases h; simp only [tickK, fN_eq]; rfl
theorem tick_mv : Mv h (tick h) := ⟨Nat.le_refl _, Nat.le_succ _, fun _ _ hne => absurd rfl hne, fun _ hne => absurd rfl hne⟩
noncomputable def clkK (h : H) (k : Nat → Bool) : Bool := H.rec (motive := fun _ => Bool) (fun _ _ clk => k clk) h
theorem clkK_eq {k : Nat → Bool} : clkK h k = k h.clk := by cases h; rfl
noncomputable def drawGo (fc : List Fact) (cl : Cl) (l : List MDr) : List Nat → Fr → H → (Fr → H → Bool) → Bool :=
  List.rec (motive := fun _ => List Nat → Fr → H → (Fr → H → Bool) → Bool) (fun _ fr h K => K fr h)
    (fun d _ ih cs fr h K => MDr.rec (motive := fun _ => Bool) (fun _ m bd => clkK h fun c => evDr fc cl m bd cs fr h fun v h => tickK h fun h => putK m.dst fr v fun fr => ih (c :: cs) fr h K) d) l
noncomputable def drawK (fc : List Fact) (cl : Cl) (l : List MDr) (fr : Fr) (h : H) (K : Fr → H → Bool) : Bool := tickK h fun h => drawGo fc cl l [] fr h K

/-- a step that lies behind: its number, what it did, when it began -/
structure Pst where
  j : Nat
  s : Stp
  c : Nat
/-- one that a reading one must look out for -/
def cond (pr : List Nat) (ms : List MOper) (j i : Nat) : Bool := isRd ms j && !ahead pr i j && isLoud ms i && !isRd ms i
theorem bound_ge {pr : List Nat} {ms : List MOper} {j : Nat} : ∀ {l : List Nat} {d q : Nat}, bound pr ms j l d = some q → d ≤ q
  | [], d, q, h => by cases h
  | i :: l, d, q, h => by
    simp only [bound] at h
    split at h
    · rename_i q' hq
      cases h
      have := bound_ge hq
      omega
    · split at h
      · cases h; exact Nat.le_refl _
      · cases h
theorem bound_spec {pr : List Nat} {ms : List MOper} {j i : Nat} (hc : cond pr ms j i = true) : ∀ {l : List Nat} {d0 d : Nat}, l[d]? = some i → ∃ q, bound pr ms j l d0 = some q ∧ d0 + d ≤ q
  | [], d0, d, h => by cases d <;> cases h
  | i0 :: l, d0, 0, h => by
    simp only [List.getElem?_cons_zero, Option.some.injEq] at h
    subst h
    simp only [bound]
    split
    · rename_i q hq
      have := bound_ge hq
      exact ⟨q, rfl, by omega⟩
    · have : (isRd ms j && !ahead pr i0 j && isLoud ms i0 && !isRd ms i0) = true := hc
      rw [if_pos this]
      exact ⟨d0, rfl, by omega⟩
  | i0 :: l, d0, d + 1, h => by
    simp only [List.getElem?_cons_succ] at h
    obtain ⟨q, h1, h2⟩ := bound_spec hc (l := l) (d0 := d0 + 1) h
    simp only [bound, h1]
    exact ⟨q, rfl, by omega⟩

/-- what the steps behind have turned is no older than they -/
structure PastOK (past : List Pst) (h : H) : Prop where
  ts : ∀ p ∈ past, ∀ b bl, p.s.W b ≠ none → h.get b = some bl → p.c ≤ bl.ts
  clk : ∀ p ∈ past, p.c ≤ h.clk
  ord : past.Pairwise fun p q => q.c ≤ p.c
theorem PastOK.mono {past : List Pst} {h h' : H} (p : PastOK past h) (m : Mv h h') : PastOK past h' :=
  ⟨fun x hx b bl hW hb => by
    by_cases e : h'.get b = h.get b
    · exact p.ts x hx b bl hW (by rw [← e]; exact hb)
    · exact Nat.le_trans (p.clk x hx) (m.ts b bl e hb), fun x hx => Nat.le_trans (p.clk x hx) m.clk, p.ord⟩
theorem PastOK.cons {past : List Pst} {h h' : H} {s : Stp} {j : Nat} (p : PastOK past h) (t : TurnD h s h') : PastOK (⟨j, s, h.clk⟩ :: past) h' := by
  have q := p.mono t.mv
  refine ⟨fun x hx b bl hW hb => ?_, fun x hx => ?_, List.pairwise_cons.2 ⟨fun y hy => p.clk y hy, p.ord⟩⟩
  · rcases List.mem_cons.1 hx with rfl | hx
    · rw [t.get] at hb
      unfold app at hb
      cases e : s.W b with
      | none => exact absurd e hW
      | some y =>
        rw [e] at hb
        simp only [Option.getD_some] at hb
        subst hb
        exact t.ts b bl e
    · exact q.ts x hx b bl hW hb
  · rcases List.mem_cons.1 hx with rfl | hx
    · exact t.mv.clk
    · exact q.clk x hx

/-- an earlier step and a later one, as the reckoning has shown -/
def Sep (pr : List Nat) (ms : List MOper) (i : Nat) (s : Stp) (j : Nat) (s' : Stp) : Prop := cond pr ms j i = true → ∀ b, s'.D b ≠ none → s.W b = none
structure StepOK (X : Cx) (n : Nat) (ro : Option Nat) (ops : Array Oper) (ms : List MOper) (x : Stk) (lo : Nat) (hi : Nat) : Prop where
  op : ops[x.j]? = some x.o
  does : OpJ X n ro ops x.j x.o x.fr x.s
  lo : lo ≤ x.s.lo
  hi : x.s.hi ≤ hi
  foot : ∃ m, ms[x.j]? = some m ∧ Foot m.op x.s
  dom : ∀ b, x.s.W b ≠ none → x.s.D b ≠ none ∨ (x.s.lo ≤ b ∧ b < x.s.hi)
  lh : x.s.lo ≤ x.s.hi
theorem StepOK.wide {ops : Array Oper} {ms : List MOper} {x : Stk} {lo hi lo' hi' : Nat} (k : StepOK X n ro ops ms x lo hi) (h1 : lo' ≤ lo) (h2 : hi ≤ hi') : StepOK X n ro ops ms x lo' hi' :=
  ⟨k.op, k.does, Nat.le_trans h1 k.lo, Nat.le_trans k.hi h2, k.foot, k.dom, k.lh⟩

theorem drawGo_inv {cl : Cl} (hcl : ClOK X cl) {ops : Array Oper} {pr : List Nat} {ms : List MOper} (hms : ∀ (j : Nat) (m : MOper), ms[j]? = some m → ∃ o, ops[j]? = some o ∧ coper X.E X.ng n ops o = some m) {K : Fr → H → Bool} :
    ∀ {od : List Nat} {ds : List MDr} {past : List Pst} {fr : Fr} {h : H}, cdraw pr ms (past.map (·.j)) od = some ds → PastOK past h → drawGo X.fc cl ds (past.map (·.c)) fr h K = true →
      ∃ (l : List Stk) (h' : H), K (endF fr l) h' = true ∧ Mv h h' ∧ l.map (·.j) = od ∧ (∀ x ∈ l, StepOK X n ro ops ms x h.next h'.next) ∧
        (∀ p ∈ past, ∀ x ∈ l, Sep pr ms p.j p.s x.j x.s) ∧ l.Pairwise (fun x y => x.s.hi ≤ y.s.lo ∧ Sep pr ms x.j x.s y.j y.s) ∧
        (∀ x ∈ l, ∀ b, x.s.D b ≠ none → h.get b ≠ none ∨ (h.next ≤ b ∧ b < x.s.lo)) ∧
        ∀ G, Ext G h.get → Free G h.next h'.next → Chain ops n fr G l ∧ endG G l = app (diff h.get h'.get) G := by
  intro od
  induction od with
  | nil =>
    intro ds past fr h hc hp hk
    cases hc
    exact ⟨[], h, hk, Mv.refl h, rfl, fun x hx => (by cases hx), fun _ _ x hx => (by cases hx), .nil, fun x hx => (by cases hx), fun G he hf => ⟨trivial, (app_self h G).symm⟩⟩
  | cons j od ih =>
    intro ds past fr h hc hp hk
    simp only [cdraw] at hc
    split at hc
    · rename_i m r hm hr
      cases hc
      change clkK h (fun c => evDr X.fc cl m (bound pr ms j (past.map (·.j)) 0) (past.map (·.c)) fr h fun v h => tickK h fun h => putK m.dst fr v fun fr => drawGo X.fc cl r (c :: past.map (·.c)) fr h K) = true at hk
      rw [clkK_eq] at hk
      obtain ⟨o, ho, hco⟩ := hms j m hm
      obtain ⟨hd, s, h1, t, hk, hj, hfoot, hold⟩ := evDr_inv (ro := ro) hcl ho hco hk
      rw [tickK_eq, putK_eq] at hk
      have hp1 : PastOK (⟨j, s, h.clk⟩ :: past) (tick h1) := (hp.cons t).mono tick_mv
      obtain ⟨l, h', hk, mv, hmap, hall, hpast, hpw, hdom, hch⟩ := ih (past := ⟨j, s, h.clk⟩ :: past) hr hp1 hk
      have mv1 : Mv h (tick h1) := t.mv.trans tick_mv
      have mv2 : Mv h h' := mv1.trans mv
      have n1 : h.next ≤ h1.next := t.mv.next
      have n2 : h1.next ≤ h'.next := mv.next
      have old : ∀ p ∈ past, Sep pr ms p.j p.s j s := by
        intro p hp' hcond b hb
        obtain ⟨d, hd2⟩ := List.getElem?_of_mem hp'
        obtain ⟨q, hq1, hq2⟩ := bound_spec (l := past.map (·.j)) (d0 := 0) (d := d) hcond (by simp [hd2])
        have hrd : m.op.rd = true := by
          have : isRd ms j = true := by
            simp only [cond, Bool.and_eq_true] at hcond; exact hcond.1.1.1
          simpa [isRd, hm] using this
        obtain ⟨c, bl, e1, e2, e3⟩ := hold hrd q hq1 b hb
        by_cases e : p.s.W b = none
        · exact e
        · exfalso
          have := hp.ts p hp' b bl e e2
          -- the bound lies no later
          have hle : c ≤ p.c := by
            simp only [List.getElem?_map, Option.map_eq_some_iff] at e1
            obtain ⟨p', e4, rfl⟩ := e1
            by_cases e5 : d = q
            · subst e5
              rw [hd2] at e4; cases e4
              exact Nat.le_refl _
            · obtain ⟨l1, e6⟩ := List.getElem?_eq_some_iff.1 hd2
              obtain ⟨l2, e7⟩ := List.getElem?_eq_some_iff.1 e4
              have := List.pairwise_iff_getElem.1 hp.ord d q l1 l2 (by omega)
              rw [e6, e7] at this
              exact this
          omega
      refine ⟨⟨j, o, s, fr, m.dst⟩ :: l, h', hk, mv2, by rw [List.map_cons, hmap], ?_, ?_, ?_, ?_, ?_⟩
      · intro x hx
        rcases List.mem_cons.1 hx with rfl | hx
        · exact ⟨ho, hj, by show h.next ≤ s.lo; rw [t.lo]; exact Nat.le_refl _, by show s.hi ≤ h'.next; rw [t.hi]; exact n2, ⟨m, hm, hfoot⟩, t.dom, by show s.lo ≤ s.hi; rw [t.lo, t.hi]; exact n1⟩
        · exact (hall x hx).wide n1 (Nat.le_refl _)
      · intro p hp' x hx
        rcases List.mem_cons.1 hx with rfl | hx
        · exact old p hp'
        · exact hpast p (List.mem_cons_of_mem _ hp') x hx
      · refine List.pairwise_cons.2 ⟨fun y hy => ⟨?_, hpast ⟨j, s, h.clk⟩ List.mem_cons_self y hy⟩, hpw⟩
        show s.hi ≤ y.s.lo
        rw [t.hi]
        exact (hall y hy).lo
      · intro x hx b hb
        rcases List.mem_cons.1 hx with rfl | hx
        · left
          intro e
          cases hD : s.D b with
          | none => exact hb hD
          | some z => rw [t.sub b z hD] at e; cases e
        · rcases hdom x hx b hb with h3 | ⟨h3, h4⟩
          · have h3 : h1.get b ≠ none := h3
            by_cases e : h1.get b = h.get b
            · left; rw [← e]; exact h3
            · rcases t.mv.dom b e with h5 | ⟨h5, h6⟩
              · exact .inl h5
              · exact .inr ⟨h5, Nat.lt_of_lt_of_le h6 (hall x hx).lo⟩
          · exact .inr ⟨Nat.le_trans n1 h3, h4⟩
      · intro G he hf
        have f1 : Free G h.next h1.next := hf.sub (Nat.le_refl _) n2
        have eW := app_turnF t he f1
        have he1 : Ext (app (diff h.get h1.get) G) (tick h1).get := ext_app he
        have f2 : Free (app (diff h.get h1.get) G) (tick h1).next h'.next := Free.next t.mv he hf
        obtain ⟨c1, c2⟩ := hch _ he1 f2
        refine ⟨⟨fun b x hx => he b x (t.sub b x hx), fun _ _ _ => rfl, hd, ?_⟩, ?_⟩
        · show Chain ops n (m.dst.put fr s.v) (app s.W G) l
          rw [eW]; exact c1
        · show endG (app s.W G) l = _
          rw [eW, c2]
          exact app_transF t.mv he f1
    · cases hc

theorem pairsOK_pw {ops : Array Oper} {pr : List Nat} {ms : List MOper} : ∀ {l : List Nat}, pairsOK ops pr ms l = true → l.Pairwise fun i j => pairOK ops pr ms i j = true
  | [], _ => .nil
  | i :: l, h => by
    simp only [pairsOK, Bool.and_eq_true, List.all_eq_true] at h
    exact List.pairwise_cons.2 ⟨fun j hj => h.1 j hj, pairsOK_pw h.2⟩
theorem edg_direct {ops : Array Oper} {i j : Nat} {o : Oper} (ho : ops[j]? = some o) : Edg ops i j ↔ i ∈ direct o := by
  constructor
  · rintro ⟨o', e, h1, h2, h3, rfl⟩
    rw [ho] at h1; cases h1
    simp only [direct, List.mem_map, List.mem_filter]
    exact ⟨e, ⟨by simpa using h2, h3⟩, rfl⟩
  · intro h
    simp only [direct, List.mem_map, List.mem_filter] at h
    obtain ⟨e, ⟨h1, h2⟩, rfl⟩ := h
    exact ⟨o, e, ho, by simpa using h1, h2, rfl⟩

theorem copers_get {ops : Array Oper} : ∀ {l : List Oper} {ms : List MOper}, copers X.E X.ng n ops l = some ms → ms.length = l.length ∧ ∀ (j : Nat) (m : MOper), ms[j]? = some m → ∃ o, l[j]? = some o ∧ coper X.E X.ng n ops o = some m
  | [], ms, h => by cases h; exact ⟨rfl, fun j m h => by cases h⟩
  | o :: l, ms, h => by
    unfold copers at h
    split at h
    · rename_i a r h1 h2
      cases h
      obtain ⟨g1, g2⟩ := copers_get h2
      refine ⟨by rw [List.length_cons, List.length_cons, g1], fun j m hj => ?_⟩
      cases j with
      | zero =>
        simp only [List.getElem?_cons_zero, Option.some.injEq] at hj
        subst hj
        exact ⟨o, rfl, h1⟩
      | succ j =>
        simp only [List.getElem?_cons_succ] at hj
        obtain ⟨o', q1, q2⟩ := g2 j m hj
        exact ⟨o', by simpa using q1, q2⟩
    · cases h

theorem drawK_does {cl : Cl} (hcl : ClOK X cl) {l : List MDr} {K : Fr → H → Bool} {ops : Array Oper} {id g : Nat} (hc : compC X.E X.ng n g (.region id ops true) = some (.draw l)) (hk : drawK X.fc cl l fr h K = true) :
    ∃ fr' h', K fr' h' = true ∧ Mv h h' ∧ CDoes X n ro [.code (.region id ops true)] fr ds h ⟨.normal, fr', ds, h'⟩ := by
  simp only [compC] at hc
  split at hc
  · cases hc
  · rename_i ms hms
    obtain ⟨hlen, hget⟩ := copers_get hms
    simp only [if_true] at hc
    split at hc
    · rename_i hok
      split at hc
      case h_2 => cases hc
      rename_i l' hl
      cases hc
      unfold drawK at hk
      rw [tickK_eq] at hk
      have hms' : ∀ (j : Nat) (m : MOper), ms[j]? = some m → ∃ o, ops[j]? = some o ∧ coper X.E X.ng n ops o = some m := fun j m hm => by
        obtain ⟨o, h1, h2⟩ := hget j m hm
        exact ⟨o, by simpa using h1, h2⟩
      obtain ⟨ll, h', hk, mv, hmap, hall, _, hpw, hdom, hch⟩ := drawGo_inv (ro := ro) hcl hms' (od := order (preds ops) ms ops.size) (past := []) hl ⟨fun _ h => (by cases h), fun _ h => (by cases h), .nil⟩ hk
      have mv' : Mv h h' := tick_mv.trans mv
      refine ⟨_, h', hk, mv', fun σ G a w rm hro hf hd ho hext hfr => ?_⟩
      simp only [drawOK, Bool.and_eq_true, List.all_eq_true, List.mem_range, decide_eq_true_eq, List.contains_eq_mem] at hok
      obtain ⟨⟨⟨hpairs, hlt⟩, hcov⟩, hdir⟩ := hok
      have hpok := pairsOK_pw hpairs
      rw [← hmap, List.pairwise_map] at hpok
      have hfree : Free G h.next h'.next := ho.free hfr
      obtain ⟨c1, c2⟩ := hch G hext hfree
      have hop : ∀ x ∈ ll, ops[x.j]? = some x.o := fun x hx => (hall x hx).op
      -- two steps
      have two : ll.Pairwise (Two ops) := by
        refine List.Pairwise.imp_of_mem ?_ (hpok.and hpw)
        rintro x y hx hy ⟨h1, h2, h3⟩
        have ox := hall x hx
        have oy := hall y hy
        simp only [pairOK, ox.op, oy.op, Bool.and_eq_true, Bool.or_eq_true, Bool.not_eq_true', bne_iff_ne, ne_eq] at h1
        obtain ⟨e1, e2, e3⟩ := h1
        refine ⟨e1, fun hed => ?_, h2, ?_⟩
        · rw [edg_direct ox.op] at hed
          simp [hed] at e2
        · by_cases ha : ahead (preds ops) x.j y.j = true
          · exact .inl (preds_sound ha)
          · right
            have ha : ahead (preds ops) x.j y.j = false := by simpa using ha
            obtain ⟨e4, e5⟩ : x.o.apart ops y.o = true ∧ ((isLoud ms x.j = false ∨ isLoud ms y.j = false) ∨ isWr ms y.j = false) := by
              rcases e3 with e3 | e3
              · rw [ha] at e3; cases e3
              · exact e3
            obtain ⟨mx, gx, fx⟩ := ox.foot
            obtain ⟨my, gy, fy⟩ := oy.foot
            have dold : ∀ b, x.s.D b ≠ none → ¬ (y.s.lo ≤ b ∧ b < y.s.hi) := fun b hb ⟨q1, q2⟩ => by
              have q4 := oy.hi
              have q6 := ox.lh
              have q3 := oy.lo
              rcases hdom x hx b hb with q | ⟨q, q'⟩
              · have q : h.get b ≠ none := q
                cases hx : h.get b with
                | none => exact q hx
                | some z =>
                  have := hext b z hx
                  have q5 : (tick h).next = h.next := rfl
                  rw [hfree b (by omega) (by omega)] at this
                  cases this
              · omega
            by_cases lx : mx.op.loud = false
            · obtain ⟨q1, q2⟩ := fx.quiet lx
              exact ⟨e4, fun b hb => absurd (q2 b) hb, fun b hb => absurd (q1 b) hb, fun b hb => absurd (q2 b) hb⟩
            · by_cases ly : my.op.loud = false
              · obtain ⟨q1, q2⟩ := fy.quiet ly
                exact ⟨e4, fun b _ => q1 b, fun b _ => q2 b, fun b _ => q2 b⟩
              · have hw : my.op.wr = false := by
                  rcases e5 with (e5 | e5) | e5
                  · simp only [isLoud, gx] at e5; exact absurd e5 lx
                  · simp only [isLoud, gy] at e5; exact absurd e5 ly
                  · simpa [isWr, gy] using e5
                have lx : mx.op.loud = true := by simpa using lx
                have ly : my.op.loud = true := by simpa using ly
                by_cases ry : my.op.rd = true
                · have wy := fy.rd ry
                  refine ⟨e4, fun b hb => ?_, fun b _ => wy b, fun b _ => wy b⟩
                  by_cases rx : mx.op.rd = true
                  · exact absurd (fx.rd rx b) hb
                  · by_cases hD : y.s.D b = none
                    · exact hD
                    · exfalso
                      refine hb (h3 ?_ b hD)
                      have rx : mx.op.rd = false := by simpa using rx
                      simp [cond, isRd, isLoud, gx, gy, ry, ha, lx, rx]
                · have ny : my.op.nw = true := by
                    have ry : my.op.rd = false := by simpa using ry
                    simpa [MOp.wr, ly, ry] using hw
                  obtain ⟨q1, q2⟩ := fy.nw ny
                  have wnew : ∀ b, y.s.W b ≠ none → y.s.lo ≤ b ∧ b < y.s.hi := fun b hb => by
                    rcases oy.dom b hb with q | q
                    · exact absurd (q1 b) q
                    · exact q
                  refine ⟨e4, fun b _ => q1 b, fun b hb => ?_, fun b hb => ?_⟩
                  · by_cases hW : y.s.W b = none
                    · exact hW
                    · exact absurd (wnew b hW) (dold b hb)
                  · by_cases hW : y.s.W b = none
                    · exact hW
                    · exfalso
                      obtain ⟨q3, q4⟩ := wnew b hW
                      rcases ox.dom b hb with q | ⟨q, q'⟩
                      · exact dold b q ⟨q3, q4⟩
                      · omega
      have hsize : ll.length = ops.size := by
        have hnd : (order (preds ops) ms ops.size).Nodup := by
          rw [← hmap]
          refine List.pairwise_map.2 (List.Pairwise.imp (fun h => ?_) two)
          exact h.ne
        have hl2 : ll.length = (order (preds ops) ms ops.size).length := by rw [← hmap, List.length_map]
        rw [hl2]
        have p : (order (preds ops) ms ops.size).Perm (List.range ops.size) := by
          refine (List.perm_ext_iff_of_nodup hnd List.nodup_range).2 fun j => ?_
          rw [List.mem_range]
          exact ⟨fun hj => hlt j hj, fun hj => by simpa using hcov j hj⟩
        rw [p.length_eq, List.length_range]
      have hsz2 : (Array.replicate ops.size false).size = ops.size := by simp
      refine wpIn_region_any X.ok.mix ?_
      have hdrew := Post.drew ho h.next
      refine any_sound (X := X) (n := n) (ro := ro) (lo := h.next) (hi := h'.next) mv'.next (fun j hj => ?_) (fun i j hij => ?_) ops.size ll _ a w.drew σ G fr hsize hsz2 (fun x hx => ?_) (fun j hj _ => ?_) two (fun i j _ hj => ?_) hf hdrew.ok c1 (fun x hx b q1 q2 => ?_) hro ?_
      · obtain ⟨o, e, g1, g2, g3, g4⟩ := hj
        have hjs := (Array.getElem?_eq_some_iff.1 g1).1
        have := hdir j hjs
        rw [g1] at this
        have hmem : j ∈ direct o := (edg_direct g1).1 ⟨o, e, g1, g2, g3, g4⟩
        simp [hmem] at this
      · obtain ⟨o, e, g1, g2, g3, g4⟩ := hij
        have hjs := (Array.getElem?_eq_some_iff.1 g1).1
        have := hdir j hjs
        rw [g1] at this
        simp only [Bool.and_eq_true, List.all_eq_true, decide_eq_true_eq] at this
        exact this.2 i ((edg_direct g1).1 ⟨o, e, g1, g2, g3, g4⟩)
      · have ox := hall x hx
        have hjs := (Array.getElem?_eq_some_iff.1 ox.op).1
        exact ⟨ox.op, ox.does, by simp [hjs], ox.lo, ox.hi⟩
      · have := hcov j hj
        rw [← hmap] at this
        simp only [List.mem_map, decide_eq_true_eq] at this
        obtain ⟨x, hx, rfl⟩ := this
        exact ⟨x, hx, rfl⟩
      · exfalso
        by_cases hjs : j < ops.size
        · simp [hjs] at hj
        · simp [Nat.le_of_not_lt hjs] at hj
      · have ox := hall x hx
        exact hfr b (Nat.le_trans ox.lo q1) (Nat.lt_of_lt_of_le q2 ox.hi)
      · intro a' w' τ g1 g2 g3
        refine ⟨rfl, τ, g1, by rw [g2]; exact hd.mono g3.le, ?_⟩
        have : Post X σ G w h.next h'.next τ (endG G ll) w' := by
          refine Post.trans (b := h.next) hdrew g3 (Nat.le_refl _) mv'.next
        rw [c2] at this
        exact this
    · cases hc

end Go.Ev
end

section
set_option linter.unusedVariables false
set_option linter.unusedSimpArgs false
namespace Go.Ev

variable {X : Cx} {σ : Sig} {n : Nat} {ro : Option Nat} {fr : Fr} {ds : List Df} {h : H} {a : Act} {w : World}

/-! ### regions in order -/
noncomputable def regK (fc : List Fact) (cl : Cl) (l : List MOper) : Fr → H → (Fr → H → Bool) → Bool :=
  List.rec (motive := fun _ => Fr → H → (Fr → H → Bool) → Bool) (fun fr h K => K fr h)
    (fun m _ ih fr h K => MOper.rec (motive := fun _ => Bool) (fun dst op g => gK g fr (opK fc cl op fr h fun v h => putK dst fr v fun fr => ih fr h K) (putK dst fr nothing fun fr => ih fr h K)) m) l
theorem regK_cons {fc : List Fact} {cl : Cl} {m : MOper} {l : List MOper} {K : Fr → H → Bool} : regK fc cl (m :: l) fr h K = evOp fc cl m fr h fun v h => putK m.dst fr v fun fr => regK fc cl l fr h K := by
  cases m; rfl

theorem regK_inv {cl : Cl} (hcl : ClOK X cl) {ops : Array Oper} {K : Fr → H → Bool} : ∀ {l : List Oper} {ms : List MOper} {i : Nat} {fr : Fr} {h : H}, ops.toList.drop i = l → copers X.E X.ng n ops l = some ms → regK X.fc cl ms fr h K = true →
    ∃ fr' h', K fr' h' = true ∧ Mv h h' ∧ ∀ ds, OpsDo X n ro ops (List.range' i l.length) fr ds h ⟨.normal, fr', ds, h'⟩
  | [], ms, i, fr, h, hl, hc, hk => by
    cases hc
    exact ⟨fr, h, hk, Mv.refl h, fun ds => OpsDo.nil⟩
  | o :: l, ms, i, fr, h, hl, hc, hk => by
    unfold copers at hc
    split at hc
    · rename_i m r h1 h2
      cases hc
      rw [regK_cons] at hk
      have ho : ops[i]? = some o := by
        have : (ops.toList.drop i)[0]? = some o := by rw [hl]; rfl
        rw [List.getElem?_drop] at this
        simpa using this
      obtain ⟨hd, s, h', t, hk, hj⟩ := evOp_inv (ro := ro) hcl ho h1 hk
      rw [putK_eq] at hk
      obtain ⟨fr2, h2, hk, mv, hdo⟩ := regK_inv hcl (i := i + 1) (by rw [← List.drop_drop, hl]; rfl) h2 hk
      refine ⟨fr2, h2, hk, t.mv.trans mv, fun ds => ?_⟩
      rw [List.length_cons, List.range'_succ]
      exact OpsDo.cons hd t hj mv (hdo ds)
    · cases hc

theorem CDoes.region {ops : Array Oper} {id : Nat} {o : Out} (hdo : OpsDo X n ro ops (List.range ops.size) fr ds h o) : CDoes X n ro [.code (.region id ops false)] fr ds h o :=
  fun σ G a w rm hro hf hd ho he hfr => wpIn_region (hdo σ G a w rm hro hf hd ho he hfr)

/-! ### regions with a deferring operation -/
noncomputable def dfrK (op : MOp) (fr : Fr) (no : Bool) (k : Df → Bool) : Bool := match op with
  | .dfr x args => x.getK fr fun v => rowK fr args fun l => (match v with | .fn f p q => rappK p l fun l => k (.fn f q l) | _ => false)
  | _ => no
noncomputable def noG (g : MG) (k : Bool) : Bool := MG.rec (motive := fun _ => Bool) k (fun _ _ => false) g
noncomputable def noR (ro : Option Nat) (k : Bool) : Bool := Option.rec (motive := fun _ => Bool) k (fun _ => false) ro
noncomputable def dregK (fc : List Fact) (cl : Cl) (ro : Option Nat) (l : List MOper) : Fr → List Df → H → (Fr → List Df → H → Bool) → Bool :=
  List.rec (motive := fun _ => Fr → List Df → H → (Fr → List Df → H → Bool) → Bool) (fun fr ds h K => K fr ds h)
    (fun m _ ih fr ds h K => MOper.rec (motive := fun _ => Bool) (fun dst op g => dfrK op fr (evOp fc cl m fr h fun v h => putK dst fr v fun fr => ih fr ds h K) fun d => noR ro (noG g (putK dst fr nothing fun fr => ih fr (d :: ds) h K))) m) l

theorem noR_inv {k : Bool} (h : noR ro k = true) : ro = none ∧ k = true := by
  cases ro with
  | none => exact ⟨rfl, h⟩
  | some b => cases h
theorem dfrK_inv {op : MOp} {no : Bool} {k : Df → Bool} (hk : dfrK op fr no k = true) : no = true ∨ ∃ x args f p q, op = .dfr x args ∧ x.val fr = .fn f p q ∧ k (.fn f q (p.app (rowV fr args))) = true := by
  unfold dfrK at hk
  split at hk
  · rename_i x args
    rw [MO.getK_eq, rowK_eq] at hk
    split at hk
    · rename_i f p q hv
      exact .inr ⟨x, args, f, p, q, rfl, hv, rappK_inv (m := rowV fr args) (a := p) (k := fun l => k (.fn f q l)) hk⟩
    · cases hk
  · exact .inl hk
theorem cop_dfr {o : Oper} {x : MO} {args : List MO} (hf : (MOp.dfr x args).fits o.op = true) (hc : cop X.E X.ng n o = some (.dfr x args)) : ∃ c y, o.op = .defer c ∧ c.callee = .value y ∧ mo X.ng n y = some x ∧ mos X.ng n c.args.toList = some args := by
  have hd : isDefOp o.op = true := by simpa [MOp.fits, MOp.isD, MOp.isCall] using hf
  cases ho : o.op with
  | defer c =>
    simp only [cop, ho] at hc
    split at hc
    · rename_i y hy
      simp only [Option.bind_eq_bind, Option.bind_eq_some_iff, Option.pure_def, Option.some.injEq] at hc
      obtain ⟨mx, h1, l, h2, h3⟩ := hc
      cases h3
      exact ⟨c, y, rfl, hy, h1, h2⟩
    · cases hc
  | _ => rw [ho] at hd; cases hd
theorem dregK_inv {cl : Cl} (hcl : ClOK X cl) {ops : Array Oper} {K : Fr → List Df → H → Bool} : ∀ {l : List Oper} {ms : List MOper} {i : Nat} {fr : Fr} {ds : List Df} {h : H}, ops.toList.drop i = l → copers X.E X.ng n ops l = some ms → dregK X.fc cl ro ms fr ds h K = true →
    ∃ fr' ds' h', K fr' ds' h' = true ∧ Mv h h' ∧ OpsDo X n ro ops (List.range' i l.length) fr ds h ⟨.normal, fr', ds', h'⟩
  | [], ms, i, fr, ds, h, hl, hc, hk => by
    cases hc
    exact ⟨fr, ds, h, hk, Mv.refl h, OpsDo.nil⟩
  | o :: l, ms, i, fr, ds, h, hl, hc, hk => by
    unfold copers at hc
    split at hc
    · rename_i m r h1 h2
      cases hc
      have ho : ops[i]? = some o := by
        have : (ops.toList.drop i)[0]? = some o := by rw [hl]; rfl
        rw [List.getElem?_drop] at this
        simpa using this
      have hk : dfrK m.op fr (evOp X.fc cl m fr h fun v h => putK m.dst fr v fun fr => dregK X.fc cl ro r fr ds h K) (fun d => noR ro (MOper.rec (motive := fun _ => Bool) (fun _ _ g => noG g (putK m.dst fr nothing fun fr => dregK X.fc cl ro r fr (d :: ds) h K)) m)) = true := by
        cases m; exact hk
      rcases dfrK_inv hk with hk | ⟨x, args, f, p, q, hop, hv, hk⟩
      · obtain ⟨hd, s, h', t, hk, hj⟩ := evOp_inv (ro := ro) hcl ho h1 hk
        rw [putK_eq] at hk
        obtain ⟨fr2, ds2, h2, hk, mv, hdo⟩ := dregK_inv hcl (i := i + 1) (by rw [← List.drop_drop, hl]; rfl) h2 hk
        refine ⟨fr2, ds2, h2, hk, t.mv.trans mv, ?_⟩
        rw [List.length_cons, List.range'_succ]
        exact OpsDo.cons hd t hj mv hdo
      · obtain ⟨hro0, hk⟩ := noR_inv hk
        cases m with
        | mk dst op g =>
          cases g with
          | some s b => cases hk
          | none =>
            have hop : op = .dfr x args := hop
            subst hop
            change putK dst fr nothing (fun fr1 => dregK X.fc cl ro r fr1 (.fn f q (p.app (rowV fr args)) :: ds) h K) = true at hk
            rw [putK_eq] at hk
            obtain ⟨fr2, ds2, h2', hk, mv, hdo⟩ := dregK_inv hcl (i := i + 1) (by rw [← List.drop_drop, hl]; rfl) h2 hk
            refine ⟨fr2, ds2, h2', hk, mv, ?_⟩
            rw [List.length_cons, List.range'_succ]
            unfold coper at h1
            split at h1
            · rename_i d' op' g' q1 q2 q3
              split at h1
              · rename_i hfits
                cases h1
                obtain ⟨c, y, e1, e2, e3, e4⟩ := cop_dfr hfits q2
                have hg : o.guard = none := by
                  unfold cguard at q3
                  split at q3
                  · assumption
                  · split at q3
                    · simp only [Option.map_eq_some_iff] at q3
                      obtain ⟨_, _, q3⟩ := q3; cases q3
                    · cases q3
                intro σ G a w rm hro hf hdf hok hext hfr
                have hrm : rm = none := by rw [hro0] at hro; exact hro
                subst hrm
                rw [wpOpsIn_cons]
                unfold wpOpIn
                have hw : Region.wanted o (yielded ops a.tmps) = true := by simp [Region.wanted, hg]
                simp only [ho, hw, if_true]
                refine ⟨fun _ _ => trivial, ?_⟩
                have hv1 := mo_V e3 (hf.fit (L := fun _ => True) hok.sane) (fun _ _ => trivial)
                rw [hv] at hv1
                obtain ⟨ps, qs, hfn, hps, hqs⟩ := (hv1 : ∃ ps qs, _)
                have hargs := mos_VL' (xs := c.args) e4 (hf.fit (L := fun _ => True) hok.sane) (fun _ _ _ _ => trivial)
                have hrun : (o.semAt (Fw none).round a.eval).run X.P w = .ok (.defer { target := .fn (.func f) qs, args := ps ++ c.args.map a.eval }) w := by
                  show (Oper.semAt none a.eval o).run X.P w = _
                  rw [Oper.semAt_none]
                  simp only [execOp, e1, resolve, e2, hfn, Deferred.ofValue, Sem.run_bind, Sem.run_pure, Result.andThen_ok]
                rw [hrun, Oper.uponIn_defer]
                have hrow : VL σ (p.app (rowV fr args)) (ps ++ c.args.map a.eval).toList := by
                  have := VL.app hargs hps
                  simpa using this
                have := hdo σ G ({ a with defers := { target := .fn (.func f) qs, args := ps ++ c.args.map a.eval } :: a.defers }.put o.dst undef) w none hro (RF.put (a := { a with defers := { target := .fn (.func f) qs, args := ps ++ c.args.map a.eval } :: a.defers }) q1 hf nothing_V)
                  (by rw [put_defers]; exact ⟨_, _, rfl, ⟨qs, rfl, hqs, hrow⟩, hdf⟩) hok hext hfr
                exact this
              · cases h1
            · cases h1
    · cases hc

end Go.Ev
end

section
set_option linter.unusedVariables false
set_option linter.unusedSimpArgs false
namespace Go.Ev

variable {X : Cx} {σ : Sig} {n : Nat} {ro : Option Nat} {fr : Fr} {ds : List Df} {h : H} {a : Act} {w : World}

/-! ### a loop over a map's entries, in whatever order -/
theorem filter_all {α : Type} {p : α → Bool} {l : List α} (h : ∀ x ∈ l, p x = true) : l.filter p = l := List.filter_eq_self.2 h
theorem filter_none {α : Type} {p : α → Bool} {l : List α} (h : ∀ x ∈ l, p x = false) : l.filter p = [] := List.filter_eq_nil_iff.2 fun x hx => by simp [h x hx]
theorem next_any {es : Array MapEntry} {seen : Array Nat} {since last clock r m : Nat} {ty : TypeId} (h1 : w.heap[r]? = some (.mapIter (some m) since seen last)) (h2 : w.heap[m]? = some (.map es clock))
    (hq : (!seen.isEmpty && !es.isEmpty && es.all (fun e => decide (e.born ≥ last))) = false) (hold : ∀ e ∈ es, e.born < since) (hne : es.filter (fun e => !seen.contains e.born) ≠ #[]) :
    ∃ e w1, e ∈ es ∧ seen.contains e.born = false ∧ w1.heap = w.heap ∧ w1.os = w.os ∧ w1.tape = w.tape ∧ w1.output = w.output ∧ ∀ w', (setObj r (.mapIter (some m) since (seen.push e.born) clock)).run X.P w1 = .ok () w' →
      (Instr.next (.pointer (some ⟨r, 0, none⟩)) false ty).run X.P w = .ok (.tuple #[.bool true, e.key, e.val]) w' := by
  have hleft : ∀ e ∈ es.filter (fun e => !seen.contains e.born), e.born < since := fun e he => hold e (Array.mem_filter.1 he).1
  have hold' : (es.filter fun e => !seen.contains e.born).filter (fun e => decide (e.born < since)) = es.filter fun e => !seen.contains e.born := by
    apply Array.toList_inj.1
    rw [Array.toList_filter]
    exact filter_all fun x hx => decide_eq_true (hleft x (Array.mem_toList_iff.1 hx))
  have hnew : (es.filter fun e => !seen.contains e.born).filter (fun e => decide (e.born ≥ since)) = #[] := by
    apply Array.toList_inj.1
    rw [Array.toList_filter]
    exact filter_none fun x hx => decide_eq_false (by have := hleft x (Array.mem_toList_iff.1 hx); omega)
  have hemp : (es.filter fun e => !seen.contains e.born).isEmpty = false := by
    cases he : (es.filter fun e => !seen.contains e.born).isEmpty with
    | false => rfl
    | true => exact absurd (Array.isEmpty_iff.1 he) hne
  generalize hl : es.filter (fun e => !seen.contains e.born) = left at *
  have hpos : 0 < left.size := by
    rcases Nat.eq_zero_or_pos left.size with h | h
    · exact absurd (Array.eq_empty_of_size_eq_zero h) hne
    · exact h
  have key : ∀ (i : Nat) (hi : i < left.size) (w1 : World), w1.heap = w.heap → w1.os = w.os → w1.tape = w.tape → w1.output = w.output →
      (choose (.mapNext left.size)).run X.P w = .ok i w1 →
      ∃ e w1, e ∈ es ∧ seen.contains e.born = false ∧ w1.heap = w.heap ∧ w1.os = w.os ∧ w1.tape = w.tape ∧ w1.output = w.output ∧ ∀ w', (setObj r (.mapIter (some m) since (seen.push e.born) clock)).run X.P w1 = .ok () w' →
        (Instr.next (.pointer (some ⟨r, 0, none⟩)) false ty).run X.P w = .ok (.tuple #[.bool true, e.key, e.val]) w' := by
    intro i hi w1 e1 e2 e3 e4 hch
    have hmem : left[i] ∈ es.filter (fun e => !seen.contains e.born) := by rw [hl]; exact Array.getElem_mem hi
    obtain ⟨m1, m2⟩ := Array.mem_filter.1 hmem
    refine ⟨left[i], w1, m1, by simpa using m2, e1, e2, e3, e4, fun w' hw' => ?_⟩
    simp only [Instr.next, Sem.run_bind, getObj, Sem.run, h1, h2, Result.andThen_ok, hq, Bool.false_eq_true, if_false, hl, hold', hnew, hemp, Array.append_empty, Array.empty_append, Array.size_map]
    have hg : (Array.map some left)[i]? = some (some left[i]) := by simp [hi]
    simp only [hch, Result.andThen_ok, hg, Sem.run_bind, hw', Sem.run_pure]
  by_cases h1 : left.size ≤ 1
  · refine key 0 hpos w rfl rfl rfl rfl ?_
    simp [choose, Sem.run, Question.forced, h1]
  · refine key ((w.tape w.drawn (.mapNext left.size)) % left.size) (Nat.mod_lt _ hpos) w.drew rfl rfl rfl rfl ?_
    simp [choose, Sem.run, Question.forced, Question.cut, h1]

/-- a memory in which nothing but one block may be written, and one is hidden -/
noncomputable def T.mapR (f : Bl → Bl) (t : T Bl) : T Bl := T.rec (motive := fun _ => T Bl) .e (fun _ v _ ihl ihr => .n ihl (Option.rec (motive := fun _ => Option Bl) .none (fun x => .some (f x)) v) ihr) t
theorem T.mapR_get (f : Bl → Bl) : ∀ (t : T Bl) (k : Nat), (T.mapR f t).get k = (t.get k).map f := by
  intro t
  induction t with
  | e => intro k; rfl
  | n l v r ihl ihr =>
    intro k
    show T.get (.n (T.mapR f l) _ (T.mapR f r)) k = _
    simp only [T.get]
    split
    · cases v <;> rfl
    · split
      · exact ihl _
      · exact ihr _
noncomputable def roB (x : Bl) : Bl := Bl.rec (motive := fun _ => Bl) (fun ts _ c => ⟨ts, true, c⟩) x
theorem roB_c (x : Bl) : (roB x).c = x.c := rfl
theorem roB_ro (x : Bl) : (roB x).ro = true := rfl
/-- all that a frame's slot may hold still lies where it lay -/
noncomputable def bndV (N : Nat) (a : AV) : Bool :=
  AV.rec (motive := fun _ => Bool) true (fun _ => true) (fun _ => true) (fun _ _ => true) (fun _ => true) true (fun b _ => Nat.blt b N) true (fun b _ _ _ _ => Nat.blt b N) true (fun b => Nat.blt b N) (fun _ _ _ ihp ihq => sel ihp ihq false) (fun b => Nat.blt b N) true
    (fun _ _ ih => ih) true (fun _ ih => ih) (fun _ ih => ih) true (fun _ _ iha ihl => sel iha ihl false) a
theorem sel_and {b t : Bool} (h : sel b t false = true) : b = true ∧ t = true := by
  rcases sel_eq h with h | ⟨_, h⟩
  · exact h
  · cases h
theorem R.back {σ τ : Sig} {N : Nat} (hle : σ.le τ) (h : ∀ b, b < N → τ.bk b = σ.bk b) (a : AV) : bndV N a = true → (∀ v, V τ a v → V σ a v) ∧ (∀ vs, VL τ a vs → VL σ a vs) := by
  unfold V VL
  induction a with
  | sym i => exact fun _ => ⟨fun v hv => by simp only [R] at hv ⊢; rw [← hle.2]; exact hv, fun _ hv => hv⟩
  | str s => exact fun _ => ⟨fun v ⟨t, h1, h2⟩ => ⟨t, h1, by rw [← hle.2]; exact h2⟩, fun _ hv => hv⟩
  | ptr b o => exact fun hb => ⟨fun v ⟨x, hx, hv⟩ => ⟨x, by rw [← h b (blt_inv hb)]; exact hx, hv⟩, fun _ hv => hv⟩
  | sl b o len cap ext => exact fun hb => ⟨fun v ⟨x, c, hx, hv⟩ => ⟨x, c, by rw [← h b (blt_inv hb)]; exact hx, hv⟩, fun _ hv => hv⟩
  | map b => exact fun hb => ⟨fun v ⟨x, hx, hv⟩ => ⟨x, by rw [← h b (blt_inv hb)]; exact hx, hv⟩, fun _ hv => hv⟩
  | yld b => exact fun hb => ⟨fun v ⟨x, hx, hv⟩ => ⟨x, by rw [← h b (blt_inv hb)]; exact hx, hv⟩, fun _ hv => hv⟩
  | fn f p q ihp ihq =>
    intro hb
    obtain ⟨h1, h2⟩ := sel_and hb
    exact ⟨fun v ⟨ps, qs, hv, hp, hq⟩ => ⟨ps, qs, hv, (ihp h1).2 _ hp, (ihq h2).2 _ hq⟩, fun _ hv => hv⟩
  | ifc t a ih => exact fun hb => ⟨fun v ⟨u, hv, hu⟩ => ⟨u, hv, (ih hb).1 _ hu⟩, fun _ hv => hv⟩
  | agg l ih => exact fun hb => ⟨fun v ⟨cs, hv, hc⟩ => ⟨cs, hv, (ih hb).2 _ hc⟩, fun _ hv => hv⟩
  | tup l ih => exact fun hb => ⟨fun v ⟨cs, hv, hc⟩ => ⟨cs, hv, (ih hb).2 _ hc⟩, fun _ hv => hv⟩
  | cons a l iha ihl =>
    intro hb
    obtain ⟨h1, h2⟩ := sel_and hb
    exact ⟨fun _ hv => hv, fun vs ⟨v, us, hv, g1, g2⟩ => ⟨v, us, hv, (iha h1).1 _ g1, (ihl h2).2 _ g2⟩⟩
  | _ => exact fun _ => ⟨fun _ hv => hv, fun _ hv => hv⟩

end Go.Ev
end
