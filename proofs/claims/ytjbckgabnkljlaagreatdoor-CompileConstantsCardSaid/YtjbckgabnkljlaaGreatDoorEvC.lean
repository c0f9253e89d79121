/- Operations of the evaluator, second part. -/
import Derived.Test.YtjbckgabnkljlaaGreatDoorEvB
import Derived.Laws.Append
import Derived.Laws.StructEq
import Derived.Laws.IdiomStrings

section
set_option linter.unusedVariables false
set_option linter.unusedSimpArgs false
namespace Go.Ev

variable {X : Cx} {σ : Sig} {n : Nat} {fr : Fr} {a : Act} {w : World} {L : Tmp → Prop}

/-! ### lengths -/
noncomputable def entsK (e : Ents) (n : Nat) (k : Nat → Bool) : Bool := Ents.rec (motive := fun _ => Nat → (Nat → Bool) → Bool) (fun n k => k n) (fun _ _ _ _ ih n k => ih (Nat.succ n) k) e n k
def Ents.len : Ents → Nat
  | .nil => 0
  | .cons _ _ _ l => l.len + 1
theorem entsK_eq : ∀ (e : Ents) (n : Nat) (k : Nat → Bool), entsK e n k = k (n + e.len)
  | .nil, n, k => rfl
  | .cons _ _ _ l, n, k => by
    show entsK l (n + 1) k = _
    rw [entsK_eq l]; simp only [Ents.len]; congr 1; omega
theorem EL.len : ∀ {e : Ents} {es : List MapEntry}, EL σ e es → es.length = e.len
  | .nil, es, h => by cases h; rfl
  | .cons _ _ _ l, es, h => by
    obtain ⟨e, us, rfl, _, _, _, h⟩ := h
    simp only [List.length_cons, Ents.len, EL.len h]
noncomputable def onMap (c : Blk) (k : Ents → Nat → Bool) : Bool := match c with | .map es cl => k es cl | _ => false
theorem onMap_inv {c : Blk} {k : Ents → Nat → Bool} (h : onMap c k = true) : ∃ es cl, c = .map es cl ∧ k es cl = true := by
  unfold onMap at h
  split at h
  · exact ⟨_, _, rfl, h⟩
  · cases h
noncomputable def lenS (a : AV) (h : H) (k : Kt) : Bool := match a with
  | .str s => lenK s 0 fun m => k (.int .i64 (.ofNat m)) h
  | _ => false
noncomputable def lenL (a : AV) (h : H) (k : Kt) : Bool := match a with
  | .sl _ _ m _ _ => k (.int .i64 (.ofNat m)) h
  | .nils => k (.int .i64 (.ofNat 0)) h
  | _ => false
noncomputable def lenM (a : AV) (h : H) (k : Kt) : Bool := match a with
  | .nilm => k (.int .i64 (.ofNat 0)) h
  | .map b => getB h b fun bl => onMap bl.c fun es _ => entsK es 0 fun m => k (.int .i64 (.ofNat m)) h
  | _ => false
noncomputable def opLen (kd : EK) (x : MO) (fr : Fr) (h : H) (k : Kt) : Bool := x.getK fr fun a => EK.rec (motive := fun _ => Bool) (lenS a h k) (lenL a h k) (lenM a h k) false false false false kd
theorem opLen_says {o : Oper} {c : Call} {t : TypeId} {d : TypeDesc} {x : Operand} {m : MO} {kd : EK} {h : H} {k : Kt} (ho : o.op = .call c) (hc : c.callee = .builtin .len) (ha : c.args.toList = [x]) (hat : c.argTypes[0]? = some t) (ht : X.E.und t = some d)
    (hd : d = .string ∧ kd = .b ∨ (∃ e, d = .slice e) ∧ kd = .s ∨ (∃ k e, d = .map k e) ∧ kd = .m) (hm : mo X.ng n x = some m)
    (hk : opLen kd m fr h k = true) : Says X n fr o h k := by
  have ha := args1 ha
  have hx : ∀ t, x = .tmp t → Lop o t := lop (by rw [ho]; simp [Op.operands, Call.operands, ha])
  unfold opLen at hk
  rw [MO.getK_eq] at hk
  have hd : d = .string ∧ (∃ s, m.val fr = .str s) ∨ (∃ e, d = .slice e) ∧ ((∃ b o l c e, m.val fr = .sl b o l c e) ∨ m.val fr = .nils) ∨ (∃ k e, d = .map k e) ∧ ((∃ b, m.val fr = .map b) ∨ m.val fr = .nilm) := by
    rcases hd with ⟨h1, rfl⟩ | ⟨h1, rfl⟩ | ⟨h1, rfl⟩
    · change lenS _ h k = true at hk
      unfold lenS at hk
      split at hk
      · rename_i s hs; exact .inl ⟨h1, s, hs⟩
      · cases hk
    · change lenL _ h k = true at hk
      unfold lenL at hk
      split at hk
      · rename_i b o l c e hs; exact .inr (.inl ⟨h1, .inl ⟨b, o, l, c, e, hs⟩⟩)
      · rename_i hs; exact .inr (.inl ⟨h1, .inr hs⟩)
      · cases hk
    · change lenM _ h k = true at hk
      unfold lenM at hk
      split at hk
      · rename_i hs; exact .inr (.inr ⟨h1, .inr hs⟩)
      · rename_i b hs; exact .inr (.inr ⟨h1, .inl ⟨b, hs⟩⟩)
      · cases hk
  have hk : (match m.val fr with
    | .str s => lenK s 0 fun m => k (.int .i64 (.ofNat m)) h
    | .sl _ _ m _ _ => k (.int .i64 (.ofNat m)) h
    | .nils => k (.int .i64 (.ofNat 0)) h
    | .nilm => k (.int .i64 (.ofNat 0)) h
    | .map b => getB h b fun bl => onMap bl.c fun es _ => entsK es 0 fun m => k (.int .i64 (.ofNat m)) h
    | _ => false) = true := by
    cases kd <;> first | (change lenS _ h k = true at hk; unfold lenS at hk) | (change lenL _ h k = true at hk; unfold lenL at hk) | (change lenM _ h k = true at hk; unfold lenM at hk) | (cases hk; done)
    all_goals
      split at hk <;> first | (cases hk; done) | (rename_i hs; rw [hs]; exact hk)
  rcases hd with ⟨rfl, s, hs⟩ | ⟨⟨e, rfl⟩, hs⟩ | ⟨⟨kt, e, rfl⟩, hs⟩
  · rw [hs] at hk
    simp only [lenK_eq, Nat.zero_add] at hk
    refine Says.pure ⟨_, hk, fun σ a w hf => ⟨_, ?_, rfl⟩⟩
    have hv := mo_V hm hf hx
    rw [hs] at hv
    obtain ⟨t', ht', hn⟩ := hv.str_inv
    have hsz := len_of hn
    simp only [execOp, ho]
    obtain ⟨cs, hcs⟩ := run_call_builtin (a := a) (ty := o.type) hc w X.P
    rw [hcs]
    simp [builtin, Builtin.len_, ha, hat, ht', run_und ht, goInt, hsz]
  · rcases hs with ⟨b, ob, l, c', e', hs⟩ | hs
    · rw [hs] at hk
      refine Says.pure ⟨_, hk, fun σ a w hf => ⟨_, ?_, rfl⟩⟩
      have hv := mo_V hm hf hx
      rw [hs] at hv
      obtain ⟨B, c', hB, hvv, _⟩ := (hv : ∃ x c, _)
      simp only [execOp, ho]
      obtain ⟨cs, hcs⟩ := run_call_builtin (a := a) (ty := o.type) hc w X.P
      rw [hcs]
      simp [builtin, Builtin.len_, ha, hat, hvv, run_und ht, goInt]
    · rw [hs] at hk
      refine Says.pure ⟨_, hk, fun σ a w hf => ⟨_, ?_, rfl⟩⟩
      have hv := mo_V hm hf hx
      rw [hs] at hv
      have hvv : a.eval x = .slice none 0 0 := hv
      simp only [execOp, ho]
      obtain ⟨cs, hcs⟩ := run_call_builtin (a := a) (ty := o.type) hc w X.P
      rw [hcs]
      simp [builtin, Builtin.len_, ha, hat, hvv, run_und ht, goInt]
  · rcases hs with ⟨b, hs⟩ | hs
    · rw [hs] at hk
      obtain ⟨bl, hb, hk⟩ := getB_inv hk
      obtain ⟨es, cl, hc', hk⟩ := onMap_inv hk
      rw [entsK_eq, Nat.zero_add] at hk
      refine Says.read hb hk fun σ a w B hf hB hr => ⟨_, ?_, rfl⟩
      have hv := mo_V hm hf hx
      rw [hs] at hv
      obtain ⟨B', hB', hvv⟩ := (hv : ∃ x, _)
      rw [hB] at hB'; cases hB'
      rw [hc'] at hr
      obtain ⟨ES, h1, h2⟩ := hr
      have hl := h2.len
      simp only [Array.length_toList] at hl
      simp only [execOp, ho]
      obtain ⟨cs, hcs⟩ := run_call_builtin (a := a) (ty := o.type) hc w X.P
      rw [hcs]
      simp [builtin, Builtin.len_, ha, hat, hvv, run_und ht, goInt, getObj, Sem.run, h1, hl]
    · rw [hs] at hk
      refine Says.pure ⟨_, hk, fun σ a w hf => ⟨_, ?_, rfl⟩⟩
      have hv := mo_V hm hf hx
      rw [hs] at hv
      have hvv : a.eval x = .map none := hv
      simp only [execOp, ho]
      obtain ⟨cs, hcs⟩ := run_call_builtin (a := a) (ty := o.type) hc w X.P
      rw [hcs]
      simp [builtin, Builtin.len_, ha, hat, hvv, run_und ht, goInt]

theorem opLen_quiet {o : Oper} {c : Call} {t : TypeId} {d : TypeDesc} {x : Operand} {m : MO} {kd : EK} {h : H} {k : Kt} (ho : o.op = .call c) (hc : c.callee = .builtin .len) (ha : c.args.toList = [x]) (hat : c.argTypes[0]? = some t) (ht : X.E.und t = some d)
    (hd : d = .string ∧ kd = .b ∨ (∃ e, d = .slice e) ∧ kd = .s) (hm : mo X.ng n x = some m)
    (hk : opLen kd m fr h k = true) : ∃ v, k v h = true ∧ Pure X n fr o v := by
  have ha := args1 ha
  have hx : ∀ t, x = .tmp t → Lop o t := lop (by rw [ho]; simp [Op.operands, Call.operands, ha])
  unfold opLen at hk
  rw [MO.getK_eq] at hk
  rcases hd with ⟨rfl, rfl⟩ | ⟨⟨e, rfl⟩, rfl⟩
  · change lenS _ h k = true at hk
    unfold lenS at hk
    split at hk
    · rename_i s hs
      simp only [lenK_eq, Nat.zero_add] at hk
      refine ⟨_, hk, fun σ a w hf => ⟨_, ?_, rfl⟩⟩
      have hv := mo_V hm hf hx
      rw [hs] at hv
      obtain ⟨t', ht', hn⟩ := hv.str_inv
      have hsz := len_of hn
      simp only [execOp, ho]
      obtain ⟨cs, hcs⟩ := run_call_builtin (a := a) (ty := o.type) hc w X.P
      rw [hcs]
      simp [builtin, Builtin.len_, ha, hat, ht', run_und ht, goInt, hsz]
    · cases hk
  · change lenL _ h k = true at hk
    unfold lenL at hk
    split at hk
    · rename_i b ob l c' e' hs
      refine ⟨_, hk, fun σ a w hf => ⟨_, ?_, rfl⟩⟩
      have hv := mo_V hm hf hx
      rw [hs] at hv
      obtain ⟨B, c', hB, hvv, _⟩ := (hv : ∃ x c, _)
      simp only [execOp, ho]
      obtain ⟨cs, hcs⟩ := run_call_builtin (a := a) (ty := o.type) hc w X.P
      rw [hcs]
      simp [builtin, Builtin.len_, ha, hat, hvv, run_und ht, goInt]
    · rename_i hs
      refine ⟨_, hk, fun σ a w hf => ⟨_, ?_, rfl⟩⟩
      have hv := mo_V hm hf hx
      rw [hs] at hv
      have hvv : a.eval x = .slice none 0 0 := hv
      simp only [execOp, ho]
      obtain ⟨cs, hcs⟩ := run_call_builtin (a := a) (ty := o.type) hc w X.P
      rw [hcs]
      simp [builtin, Builtin.len_, ha, hat, hvv, run_und ht, goInt]
    · cases hk

/-! ### type assertions -/
noncomputable def opTas (x : MO) (t : Nat) (z : AV) (ok : Bool) (fr : Fr) (h : H) (k : Kt) : Bool := x.getK fr fun a => match a with
  | .ifc t' v => sel (Nat.beq t' t) (sel ok (k (.tup (.cons v (.cons (.bool true) .nil))) h) (k v h)) (chk ok (k (.tup (.cons z (.cons (.bool false) .nil))) h))
  | .nili => chk ok (k (.tup (.cons z (.cons (.bool false) .nil))) h)
  | _ => false
theorem opTas_says {o : Oper} {x : Operand} {xt t : TypeId} {ok : Bool} {d : TypeDesc} {i : TypeInfo} {zv : Value} {z : AV} {m : MO} {h : H} {k : Kt} (ho : o.op = .typeAssert x xt t ok) (ht : X.E.und t = some d) (hni : ∀ l, d ≠ .interface l) (hi : X.E.ty t = some i) (hz : i.zero = some zv) (hcv : cv zv = some z) (hm : mo X.ng n x = some m)
    (hk : opTas m t z ok fr h k = true) : Says X n fr o h k := by
  unfold opTas at hk
  rw [MO.getK_eq] at hk
  have hx : ∀ t, x = .tmp t → Lop o t := lop (by rw [ho]; simp [Op.operands])
  have key : ∀ (v : AV), k v h = true → (∀ σ u, V σ (m.val fr) u → ∃ r, (∀ w, (Instr.typeAssert u xt t ok).run X.P w = .ok r w) ∧ V σ v r) → Says X n fr o h k := by
    intro v hk hr
    refine Says.pure ⟨v, hk, pureV (s := fun a => Instr.typeAssert (a.eval x) xt t ok) (fun a => by simp only [execOp, ho]) fun σ a w hf => ?_⟩
    obtain ⟨r, h1, h2⟩ := hr σ _ (mo_V hm hf hx)
    exact ⟨r, h1 w, h2⟩
  have hdd : ∀ {α : Sort 1} (f : Array (String × TypeId) → α) (g : α), (match d with | .interface l => f l | _ => g) = g := by
    intro α f g
    cases d <;> first | rfl | exact absurd rfl (hni _)
  split at hk
  · rename_i t' v hs
    rcases sel_eq hk with ⟨h1, hk1⟩ | ⟨h1, hk1⟩
    · rw [beq_true] at h1
      subst h1
      rcases sel_eq hk1 with ⟨h2, hk2⟩ | ⟨h2, hk2⟩
      · refine key _ hk2 fun σ u hu => ?_
        rw [hs] at hu
        obtain ⟨y, rfl, hy⟩ := (hu : ∃ u, _)
        refine ⟨.tuple #[y, .bool true], fun w => ?_, _, rfl, VL.cons hy (VL.cons rfl VL.nil)⟩
        simp only [Instr.typeAssert, Sem.run_bind, run_und ht, Result.andThen_ok]
        cases d <;> first | exact absurd rfl (hni _) | simp [h2]
      · refine key _ hk2 fun σ u hu => ?_
        rw [hs] at hu
        obtain ⟨y, rfl, hy⟩ := (hu : ∃ u, _)
        refine ⟨y, fun w => ?_, hy⟩
        simp only [Instr.typeAssert, Sem.run_bind, run_und ht, Result.andThen_ok]
        cases d <;> first | exact absurd rfl (hni _) | simp [h2]
    · rw [nbf] at h1
      obtain ⟨h2, hk2⟩ := chk_eq hk1
      refine key _ hk2 fun σ u hu => ?_
      rw [hs] at hu
      obtain ⟨y, rfl, hy⟩ := (hu : ∃ u, _)
      refine ⟨.tuple #[zv, .bool false], fun w => ?_, _, rfl, VL.cons (cv_V hcv) (VL.cons rfl VL.nil)⟩
      simp only [Instr.typeAssert, Sem.run_bind, run_und ht, Result.andThen_ok]
      cases d <;> first | exact absurd rfl (hni _) | simp [h2, h1, run_zero hi hz]
  · rename_i hs
    obtain ⟨h2, hk⟩ := chk_eq hk
    refine key _ hk fun σ u hu => ?_
    rw [hs] at hu
    have hu : u = .nilIface := hu
    subst hu
    refine ⟨.tuple #[zv, .bool false], fun w => ?_, _, rfl, VL.cons (cv_V hcv) (VL.cons rfl VL.nil)⟩
    simp only [Instr.typeAssert, Sem.run_bind, run_und ht, Result.andThen_ok]
    cases d <;> first | exact absurd rfl (hni _) | simp [h2, run_zero hi hz]
  · cases hk

end Go.Ev
end

section
set_option linter.unusedVariables false
set_option linter.unusedSimpArgs false
namespace Go.Ev

variable {X : Cx} {σ : Sig} {n : Nat} {fr : Fr} {a : Act} {w : World} {L : Tmp → Prop}

/-! ### two values held against each other -/
noncomputable def eqOut (neg b : Bool) (h : H) (k : Kt) : Bool := sel b (sel neg (k (.bool false) h) (k (.bool true) h)) (sel neg (k (.bool true) h) (k (.bool false) h))
theorem eqOut_inv {neg b : Bool} {h : H} {k : Kt} (hk : eqOut neg b h k = true) : k (.bool (if neg then !b else b)) h = true := by
  cases neg <;> cases b <;> exact hk

def eqV (kd : EK) (lit : Bool) : AV → AV → Option Bool
  | .bool p, .bool q => match kd with | .b => some (p == q) | _ => none
  | .nils, .nils => match kd with | .s => some true | _ => none
  | .nils, .sl _ _ _ _ _ => match kd with | .s => some false | _ => none
  | .sl _ _ _ _ _, .nils => match kd with | .s => some false | _ => none
  | .nilm, .nilm => match kd with | .m => some true | _ => none
  | .nilm, .map _ => match kd with | .m => some false | _ => none
  | .map _, .nilm => match kd with | .m => some false | _ => none
  | .nilf, .nilf => match kd with | .f => some true | _ => none
  | .nilf, .fn _ _ _ => match kd with | .f => some false | _ => none
  | .fn _ _ _, .nilf => match kd with | .f => some false | _ => none
  | .nilf, .yld _ => match kd with | .f => some false | _ => none
  | .yld _, .nilf => match kd with | .f => some false | _ => none
  | .nili, .nili => match kd with | .i => if lit then some true else none | _ => none
  | .nili, .ifc _ _ => match kd with | .i => some false | _ => none
  | .ifc _ _, .nili => match kd with | .i => some false | _ => none
  | .nilp, .nilp => match kd with | .p | .z => some true | _ => none
  | .nilp, .ptr _ _ => match kd with | .p | .z => some false | _ => none
  | .ptr _ _, .nilp => match kd with | .p | .z => some false | _ => none
  | _, _ => none

/-- the kind of a type's values -/
def EK.fits (E : Env) : EK → TypeDesc → Prop
  | .b, d => d = .bool
  | .s, d => ∃ e, d = .slice e
  | .m, d => ∃ k e, d = .map k e
  | .f, d => ∃ p r v, d = .func p r v
  | .i, d => ∃ l, d = .interface l
  | .p, d => ∃ e i, d = .pointer e ∧ E.ty e = some i ∧ 0 < i.size
  | .z, d => ∃ e, d = .pointer e

/-- the test ahead, and the comparison -/
def eqSem (neg : Bool) (t : TypeId) (x y : Operand) (u v : Value) : Sem Value := do eqGuard (if neg then .neq else .eql) t x y u v; Go.binOp (if neg then .neq else .eql) t u v
theorem eqSem_of {neg : Bool} {t : TypeId} {x y : Operand} {u v : Value} {P : Program} {b : Bool} (hi : (∀ k i, u ≠ .int k i) ∧ (∀ k i j, u ≠ .complex k i j) ∧ (∀ k i, u ≠ .float k i) ∧ (∀ s, u ≠ .string s)) (hg : (eqGuard (if neg then .neq else .eql) t x y u v).run P w = .ok () w) (he : (Op.equal t u v).run P w = .ok b w) :
    (eqSem neg t x y u v).run P w = .ok (.bool (if neg then !b else b)) w := by
  unfold eqSem
  rw [Sem.run_bind, hg, Result.andThen_ok]
  obtain ⟨h1, h2, h3, h4⟩ := hi
  cases neg
  · have : Go.binOp .eql t u v = (do pure (.bool (← Op.equal t u v))) := by
      unfold Go.binOp
      split <;> first | rfl | (exfalso; simp_all; done)
    simp only [Bool.false_eq_true, if_false, this, Sem.run_bind, he, Result.andThen_ok, Sem.run_pure]
  · have : Go.binOp .neq t u v = (do pure (.bool (!(← Op.equal t u v)))) := by
      unfold Go.binOp
      split <;> first | rfl | (exfalso; simp_all; done)
    simp only [if_true, this, Sem.run_bind, he, Result.andThen_ok, Sem.run_pure]

theorem eqGuard_no {neg : Bool} {t : TypeId} {x y : Operand} {u v : Value} {P : Program} (h1 : u = .nilIface → v = .nilIface → isConst x = true ∨ isConst y = true) (h2 : ∀ c, u ≠ .agg c) : (eqGuard (if neg then .neq else .eql) t x y u v).run P w = .ok () w := by
  have hop : ∀ op, op = BinOp.eql ∨ op = BinOp.neq → (eqGuard op t x y u v).run P w = .ok () w := by
    intro op hop
    unfold eqGuard
    rcases hop with rfl | rfl
    all_goals
      simp only [Bool.not_true, Bool.false_eq_true, if_false]
      split
      · rcases h1 rfl rfl with h | h
        · cases x <;> first | (cases h; done) | simp
        · cases y <;> first | (cases h; done) | simp
      · exact absurd rfl (h2 _)
      · rfl
  exact hop _ (by cases neg <;> simp)

set_option maxHeartbeats 1600000 in
theorem eqV_sound {E : Env} {kd : EK} {lit : Bool} {p q : AV} {r : Bool} (h : eqV kd lit p q = some r) {d : TypeDesc} {t : TypeId} (hk : kd.fits X.E d) (ht : X.E.und t = some d) {x y : Operand} (hl : lit = true → isConst x = true ∨ isConst y = true)
    {neg : Bool} {u v : Value} (hu : V σ p u) (hv : V σ q v) : (eqSem neg t x y u v).run X.P w = .ok (.bool (if neg then !r else r)) w := by
  have run : ∀ (u v : Value) (b : Bool), ((∀ k i, u ≠ .int k i) ∧ (∀ k i j, u ≠ .complex k i j) ∧ (∀ k i, u ≠ .float k i) ∧ (∀ s, u ≠ .string s)) → (u = .nilIface → v = .nilIface → isConst x = true ∨ isConst y = true) → (∀ c, u ≠ .agg c) →
      (∀ D, (Op.equalIn (D + 1) t u v).run X.P w = .ok b w) → (eqSem neg t x y u v).run X.P w = .ok (.bool (if neg then !b else b)) w :=
    fun u v b h1 h2 h3 h4 => eqSem_of h1 (eqGuard_no h2 h3) (h4 9999)
  unfold eqV at h
  split at h <;> first | (cases h; done) | skip
  all_goals
    cases kd <;> first | (cases h; done) | skip
  · -- bool
    cases h; cases hu.bool_inv; cases hv.bool_inv
    cases (hk : d = .bool)
    exact run _ _ _ (by simp) (by simp) (by simp) (fun D => by simp [Op.equalIn, run_und ht])
  · cases h; cases (hu : u = .slice none 0 0); cases (hv : v = .slice none 0 0)
    obtain ⟨e, rfl⟩ := (hk : ∃ e, d = .slice e)
    exact run _ _ _ (by simp) (by simp) (by simp) (fun D => by simp [Op.equalIn, run_und ht])
  · cases h; cases (hu : u = .slice none 0 0); obtain ⟨B, c, _, rfl, _⟩ := (hv : ∃ x c, _)
    obtain ⟨e, rfl⟩ := (hk : ∃ e, d = .slice e)
    exact run _ _ _ (by simp) (by simp) (by simp) (fun D => by simp [Op.equalIn, run_und ht])
  · cases h; cases (hv : v = .slice none 0 0); obtain ⟨B, c, _, rfl, _⟩ := (hu : ∃ x c, _)
    obtain ⟨e, rfl⟩ := (hk : ∃ e, d = .slice e)
    exact run _ _ _ (by simp) (by simp) (by simp) (fun D => by simp [Op.equalIn, run_und ht])
  · cases h; cases (hu : u = .map none); cases (hv : v = .map none)
    obtain ⟨k, e, rfl⟩ := (hk : ∃ k e, d = .map k e)
    exact run _ _ _ (by simp) (by simp) (by simp) (fun D => by simp [Op.equalIn, run_und ht])
  · cases h; cases (hu : u = .map none); obtain ⟨B, _, rfl⟩ := (hv : ∃ x, _)
    obtain ⟨k, e, rfl⟩ := (hk : ∃ k e, d = .map k e)
    exact run _ _ _ (by simp) (by simp) (by simp) (fun D => by simp [Op.equalIn, run_und ht])
  · cases h; cases (hv : v = .map none); obtain ⟨B, _, rfl⟩ := (hu : ∃ x, _)
    obtain ⟨k, e, rfl⟩ := (hk : ∃ k e, d = .map k e)
    exact run _ _ _ (by simp) (by simp) (by simp) (fun D => by simp [Op.equalIn, run_und ht])
  · cases h; cases (hu : u = .nilFunc); cases (hv : v = .nilFunc)
    obtain ⟨k, e, e', rfl⟩ := (hk : ∃ p r v, d = .func p r v)
    exact run _ _ _ (by simp) (by simp) (by simp) (fun D => by simp [Op.equalIn, run_und ht])
  · cases h; cases (hu : u = .nilFunc); obtain ⟨ps, qs, rfl, _⟩ := (hv : ∃ p q, _)
    obtain ⟨k, e, e', rfl⟩ := (hk : ∃ p r v, d = .func p r v)
    exact run _ _ _ (by simp) (by simp) (by simp) (fun D => by simp [Op.equalIn, run_und ht])
  · cases h; cases (hv : v = .nilFunc); obtain ⟨ps, qs, rfl, _⟩ := (hu : ∃ p q, _)
    obtain ⟨k, e, e', rfl⟩ := (hk : ∃ p r v, d = .func p r v)
    exact run _ _ _ (by simp) (by simp) (by simp) (fun D => by simp [Op.equalIn, run_und ht])
  · cases h; cases (hu : u = .nilFunc); obtain ⟨B, _, rfl⟩ := (hv : ∃ x, _)
    obtain ⟨k, e, e', rfl⟩ := (hk : ∃ p r v, d = .func p r v)
    exact run _ _ _ (by simp) (by simp) (by simp) (fun D => by simp [Op.equalIn, run_und ht])
  · cases h; cases (hv : v = .nilFunc); obtain ⟨B, _, rfl⟩ := (hu : ∃ x, _)
    obtain ⟨k, e, e', rfl⟩ := (hk : ∃ p r v, d = .func p r v)
    exact run _ _ _ (by simp) (by simp) (by simp) (fun D => by simp [Op.equalIn, run_und ht])
  · simp only [Option.ite_none_right_eq_some, Option.some.injEq] at h
    obtain ⟨h1, rfl⟩ := h
    cases (hu : u = .nilIface); cases (hv : v = .nilIface)
    obtain ⟨l, rfl⟩ := (hk : ∃ l, d = .interface l)
    exact run _ _ _ (by simp) (fun _ _ => hl h1) (by simp) (fun D => by simp [Op.equalIn, run_und ht])
  · cases h; cases (hu : u = .nilIface); obtain ⟨y', rfl, _⟩ := (hv : ∃ u, _)
    obtain ⟨l, rfl⟩ := (hk : ∃ l, d = .interface l)
    exact run _ _ _ (by simp) (by simp) (by simp) (fun D => by simp [Op.equalIn, run_und ht])
  · cases h; cases (hv : v = .nilIface); obtain ⟨y', rfl, _⟩ := (hu : ∃ u, _)
    obtain ⟨l, rfl⟩ := (hk : ∃ l, d = .interface l)
    exact run _ _ _ (by simp) (by simp) (by simp) (fun D => by simp [Op.equalIn, run_und ht])
  all_goals
    have hk' : ∃ e, d = .pointer e := by
      first
        | exact hk
        | (obtain ⟨e, i, h1, _⟩ := (hk : ∃ e i, d = .pointer e ∧ X.E.ty e = some i ∧ 0 < i.size); exact ⟨e, h1⟩)
    obtain ⟨e, rfl⟩ := hk'
    cases h
  · cases (hu : u = .pointer none); cases (hv : v = .pointer none)
    exact run _ _ _ (by simp) (by simp) (by simp) (fun D => by simp [Op.equalIn, run_und ht])
  · cases (hu : u = .pointer none); cases (hv : v = .pointer none)
    exact run _ _ _ (by simp) (by simp) (by simp) (fun D => by simp [Op.equalIn, run_und ht])
  · cases (hu : u = .pointer none); obtain ⟨B, _, rfl⟩ := hv.ptr_inv
    exact run _ _ _ (by simp) (by simp) (by simp) (fun D => by simp [Op.equalIn, run_und ht])
  · cases (hu : u = .pointer none); obtain ⟨B, _, rfl⟩ := hv.ptr_inv
    exact run _ _ _ (by simp) (by simp) (by simp) (fun D => by simp [Op.equalIn, run_und ht])
  · cases (hv : v = .pointer none); obtain ⟨B, _, rfl⟩ := hu.ptr_inv
    exact run _ _ _ (by simp) (by simp) (by simp) (fun D => by simp [Op.equalIn, run_und ht])
  · cases (hv : v = .pointer none); obtain ⟨B, _, rfl⟩ := hu.ptr_inv
    exact run _ _ _ (by simp) (by simp) (by simp) (fun D => by simp [Op.equalIn, run_und ht])

/-! ### the operation -/
noncomputable def onPure (c : Blk) (k : Bool) : Bool := match c with | .cells _ _ _ p _ => chk p k | _ => false
theorem onPure_inv {c : Blk} {k : Bool} (h : onPure c k = true) : ∃ cs el fz z, c = .cells cs el fz true z ∧ k = true := by
  unfold onPure at h
  split at h
  · obtain ⟨rfl, h⟩ := chk_eq h
    exact ⟨_, _, _, _, rfl, h⟩
  · cases h
noncomputable def eqPtr (neg : Bool) (kd : EK) (a b : AV) (h : H) (k : Kt) : Bool := match kd, a, b with
  | .p, .ptr b o, .ptr b' o' => sel (Nat.beq b b') (eqOut neg (Nat.beq o o') h k) (getB h b fun x => getB h b' fun x' => onPure x.c (onPure x'.c (eqOut neg false h k)))
  | _, _, _ => false
noncomputable def opEqv (neg : Bool) (x y : MO) (lit : Bool) (kd : EK) (fr : Fr) (h : H) (k : Kt) : Bool := x.getK fr fun a => y.getK fr fun b =>
  Option.rec (motive := fun _ => Bool) (eqPtr neg kd a b h k) (fun r => eqOut neg r h k) (eqV kd lit a b)

theorem opEqv_saysF {o : Oper} {neg : Bool} {t t' : TypeId} {d : TypeDesc} {x y : Operand} {mx my : MO} {lit : Bool} {kd : EK} {h : H} {k : Kt} (ho : o.op = .binOp (if neg then .neq else .eql) t x y t') (ht : X.E.und t = some d) (hkd : kd.fits X.E d) (hl : lit = true → isConst x = true ∨ isConst y = true)
    (hx : mo X.ng n x = some mx) (hy : mo X.ng n y = some my) (hk : opEqv neg mx my lit kd fr h k = true) : SaysF X n fr o h k (bkOf (mx.val fr) ++ bkOf (my.val fr)) false := by
  unfold opEqv at hk
  simp only [MO.getK_eq] at hk
  have hex : ∀ a : Act, execOp a.eval o = (do pure (Next.value (← eqSem neg t x y (a.eval x) (a.eval y)))) := fun a => by simp only [execOp, ho, eqSem]
  have lx : ∀ t, x = .tmp t → Lop o t := lop (by rw [ho]; simp [Op.operands])
  have ly : ∀ t, y = .tmp t → Lop o t := lop (by rw [ho]; simp [Op.operands])
  cases he : eqV kd lit (mx.val fr) (my.val fr) with
  | some r =>
    rw [he] at hk
    refine SaysF.pure ⟨_, eqOut_inv hk, pureV hex fun σ a w hf => ⟨_, eqV_sound (E := X.E) he hkd ht hl (mo_V hx hf lx) (mo_V hy hf ly), rfl⟩⟩
  | none =>
    rw [he] at hk
    change eqPtr neg kd (mx.val fr) (my.val fr) h k = true at hk
    unfold eqPtr at hk
    split at hk
    · rename_i kd b ob b' ob' h1 h2
      obtain ⟨e, i, rfl, hi, h0⟩ := (hkd : ∃ e i, d = .pointer e ∧ X.E.ty e = some i ∧ 0 < i.size)
      have hz : i.size ≠ 0 := by omega
      have ptr : ∀ (u v : Addr) (r : Bool) (w : World), (sameAddr u v).run X.P w = .ok r w → (eqSem neg t x y (.pointer (some u)) (.pointer (some v))).run X.P w = .ok (.bool (if neg then !r else r)) w := by
        intro u v r w hr
        refine eqSem_of (by simp) (eqGuard_no (by simp) (by simp)) ?_
        have : ∀ D, (Op.equalIn (D + 1) t (.pointer (some u)) (.pointer (some v))).run X.P w = .ok r w := fun D => by
          simp only [Op.equalIn, Sem.run_bind, run_und ht, Result.andThen_ok, run_size hi, hz, ne_eq, not_false_eq_true, if_true, hr]
        exact this 9999
      rcases sel_eq hk with ⟨g, hk⟩ | ⟨g, hk⟩
      · rw [beq_true] at g
        refine SaysF.pure ⟨_, eqOut_inv hk, pureV hex fun σ a w hf => ⟨_, ?_, rfl⟩⟩
        have v1 := mo_V hx hf lx
        have v2 := mo_V hy hf ly
        rw [h1] at v1
        rw [h2] at v2
        obtain ⟨B, hB, e1⟩ := v1.ptr_inv
        obtain ⟨B', hB', e2⟩ := v2.ptr_inv
        rw [g, hB'] at hB; cases hB
        rw [e1, e2]
        refine ptr _ _ _ w ?_
        simp only [sameAddr, beq_self_eq_true, if_true, Sem.run_pure]
        congr 1
        by_cases q : ob = ob'
        · subst q; rw [show Nat.beq ob ob = true from Nat.beq_refl _]; simp
        · rw [nbf.2 q]; simp [q]
      · rw [nbf] at g
        obtain ⟨bl, hb, hk⟩ := getB_inv hk
        obtain ⟨bl', hb', hk⟩ := getB_inv hk
        obtain ⟨cs, el, fz, z, hc, hk⟩ := onPure_inv hk
        obtain ⟨cs', el', fz', z', hc', hk⟩ := onPure_inv hk
        have hk := eqOut_inv hk
        have g' : b' ≠ b := fun e => g e.symm
        refine ⟨⟨fun c => if c = b then some bl else if c = b' then some bl' else none, noCh, h.next, h.next, _⟩, h, ⟨?_, (by rw [app_no]), rfl, rfl, Nat.le_refl _, rfl, fun _ _ h => (by cases h), fun _ h => absurd rfl h⟩, hk, ?_, fun c hc => ?_, fun _ h => absurd rfl h⟩
        · intro c z hcz
          simp only at hcz
          split at hcz
          · rename_i q; subst q; cases hcz; exact hb
          · split at hcz
            · rename_i q; subst q; cases hcz; exact hb'
            · cases hcz
        · intro σ G a w hf hok hext _
          have v1 := mo_V hx hf lx
          have v2 := mo_V hy hf ly
          rw [h1] at v1
          rw [h2] at v2
          obtain ⟨B, hB, e1⟩ := v1.ptr_inv
          obtain ⟨B', hB', e2⟩ := v2.ptr_inv
          have G1 : G b = some bl := hext b bl (by simp)
          have G2 : G b' = some bl' := hext b' bl' (by simp [g'])
          have hne := hok.sep b b' B B' bl bl' g G1 G2 hB hB'
          obtain ⟨B1, hB1, r1⟩ := hok.rel b bl G1
          obtain ⟨B2, hB2, r2⟩ := hok.rel b' bl' G2
          rw [hB] at hB1; cases hB1
          rw [hB'] at hB2; cases hB2
          rw [hc] at r1
          rw [hc'] at r2
          obtain ⟨C1, f1, ⟨t1, q1, _⟩, _, _, _, p1, _⟩ := r1
          obtain ⟨C2, f2, ⟨t2, q2, _⟩, _, _, _, p2, _⟩ := r2
          have fr1 : ∀ k, w.frozen? ⟨B.r, k, none⟩ = false := fun k => by
            simp only [World.frozen?, q1]
            have := p1 rfl
            obtain ⟨lo, hi⟩ := f1
            simp only at this ⊢
            subst this
            simp only [Bool.and_eq_false_iff, decide_eq_false_iff_not]; omega
          have fr2 : ∀ k, w.frozen? ⟨B'.r, k, none⟩ = false := fun k => by
            simp only [World.frozen?, q2]
            have := p2 rfl
            obtain ⟨lo, hi⟩ := f2
            simp only at this ⊢
            subst this
            simp only [Bool.and_eq_false_iff, decide_eq_false_iff_not]; omega
          have s1 : w.shape? B.r = some (t1, C1.size) := by simp [World.shape?, q1]
          have s2 : w.shape? B'.r = some (t2, C2.size) := by simp [World.shape?, q2]
          refine ⟨_, _, w, σ, ?_, .inl rfl, rfl, Post.refl hok _⟩
          rw [hex, e1, e2]
          refine run_exec_value (ptr _ _ false w ?_)
          have nb : (B.r == B'.r) = false := by simp [hne]
          simp [sameAddr, nb, fr1, fr2, noView, viewAt, mayBeOne, stringish, s1, s2]
        · simp only [ne_eq] at hc
          rw [h1, h2]
          split at hc
          · rename_i q; subst q; exact List.mem_cons_self
          · split at hc
            · rename_i q; subst q; exact List.mem_cons_of_mem _ List.mem_cons_self
            · exact absurd rfl hc
    · cases hk

theorem opEqv_quiet {o : Oper} {neg : Bool} {t t' : TypeId} {d : TypeDesc} {x y : Operand} {mx my : MO} {lit : Bool} {kd : EK} {h : H} {k : Kt} (hp : kd ≠ .p) (ho : o.op = .binOp (if neg then .neq else .eql) t x y t') (ht : X.E.und t = some d) (hkd : kd.fits X.E d) (hl : lit = true → isConst x = true ∨ isConst y = true)
    (hx : mo X.ng n x = some mx) (hy : mo X.ng n y = some my) (hk : opEqv neg mx my lit kd fr h k = true) : ∃ v, k v h = true ∧ Pure X n fr o v := by
  unfold opEqv at hk
  simp only [MO.getK_eq] at hk
  have hex : ∀ a : Act, execOp a.eval o = (do pure (Next.value (← eqSem neg t x y (a.eval x) (a.eval y)))) := fun a => by simp only [execOp, ho, eqSem]
  have lx : ∀ t, x = .tmp t → Lop o t := lop (by rw [ho]; simp [Op.operands])
  have ly : ∀ t, y = .tmp t → Lop o t := lop (by rw [ho]; simp [Op.operands])
  cases he : eqV kd lit (mx.val fr) (my.val fr) with
  | some r =>
    rw [he] at hk
    exact ⟨_, eqOut_inv hk, pureV hex fun σ a w hf => ⟨_, eqV_sound (E := X.E) he hkd ht hl (mo_V hx hf lx) (mo_V hy hf ly), rfl⟩⟩
  | none =>
    rw [he] at hk
    change eqPtr neg kd (mx.val fr) (my.val fr) h k = true at hk
    unfold eqPtr at hk
    split at hk
    · exact absurd rfl hp
    · cases hk

end Go.Ev
end

section
set_option linter.unusedVariables false
set_option linter.unusedSimpArgs false
namespace Go.Ev

variable {X : Cx} {σ : Sig} {n : Nat} {fr : Fr} {a : Act} {w : World} {L : Tmp → Prop}

/-! ### append -/
noncomputable def bytesRow (s : List Nat) (k : AV → Bool) : Bool := List.rec (motive := fun _ => (AV → Bool) → Bool) (fun k => k .nil) (fun c _ ih k => ih fun r => sel (Nat.blt c 256) (k (.cons (.int .u8 (.ofNat c)) r)) (k (.cons (.sym c) r))) s k
def byteV (c : Nat) : AV := if c < 256 then .int .u8 (.ofNat c) else .sym c
theorem byteV_V (σ : Sig) (c : Nat) : V σ (byteV c) (.int .u8 (σ.sym.bv c : Nat)) := by
  unfold byteV
  split
  · rename_i h; rw [σ.sym.bv_lt h]; rfl
  · rename_i h; show _ = σ.sym.val c; rw [σ.sym.val_dig (by omega)]
def bytesV : List Nat → AV
  | [] => .nil
  | c :: s => .cons (byteV c) (bytesV s)
theorem bytesRow_eq : ∀ (s : List Nat) (k : AV → Bool), bytesRow s k = k (bytesV s)
  | [], k => rfl
  | c :: s, k => by
    show bytesRow s (fun r => sel (Nat.blt c 256) (k (.cons (.int .u8 (.ofNat c)) r)) (k (.cons (.sym c) r))) = _
    rw [bytesRow_eq s, bytesV, byteV, blt_eq]
    by_cases h : c < 256
    · rw [decide_eq_true h, sel_true, if_pos h]
    · rw [decide_eq_false h, sel_false, if_neg h]
theorem bytesV_VL : ∀ {s : List Nat} {t : List UInt8}, t.map UInt8.toNat = s.map σ.sym.bv → VL σ (bytesV s) (t.map fun b => .int .u8 b.toNat)
  | [], t, h => by
    simp only [List.map_nil, List.map_eq_nil_iff] at h
    subst h; rfl
  | c :: s, t, h => by
    cases t with
    | nil => cases h
    | cons b t =>
      simp only [List.map_cons, List.cons.injEq] at h
      exact VL.cons (by show V σ (byteV c) (.int .u8 b.toNat); rw [h.1]; exact byteV_V σ c) (bytesV_VL h.2)

/-- what is appended: its cells, how many elements; the block that is read -/
noncomputable def newsK (es : Nat) (x : AV) (h : H) (k : AV → Nat → Bool) : Bool := match x with
  | .nils => k .nil 0
  | .str s => chk (Nat.beq es 1) (lenK s 0 fun m => bytesRow s fun r => k r m)
  | .sl b o len _ _ => getB h b fun bl => onCells bl.c fun cs _ _ _ _ => rdropK o cs fun l => fN (Nat.mul len es) fun q => rtakeK q l fun r => k r len
  | _ => false
theorem newsK_inv {es : Nat} {x : AV} {h : H} {k : AV → Nat → Bool} (hk : newsK es x h k = true) :
    ∃ row m S, k row m = true ∧ ∀ (σ : Sig) (G : Hp) (w : World) (v : Value), Ok X σ G w → Ext G (rst h S) → V σ x v →
      (∀ w, (Builtin.lenOf v).run X.P w = .ok m w) ∧ ∃ us : Array Value, VL σ row us.toList ∧ us.size = m * es ∧ ∀ w' : World, w'.heap = w.heap → (Builtin.firstCells es m v).run X.P w' = .ok us w' := by
  unfold newsK at hk
  split at hk
  · refine ⟨_, _, [], hk, fun σ G w v hok _ hv => ?_⟩
    have hv : v = .slice none 0 0 := hv
    subst hv
    exact ⟨fun w => rfl, #[], rfl, by simp, fun w' _ => rfl⟩
  · rename_i s
    obtain ⟨h1, hk⟩ := chk_eq hk
    rw [beq_true] at h1
    subst h1
    rw [lenK_eq, bytesRow_eq, Nat.zero_add] at hk
    refine ⟨_, _, [], hk, fun σ G w v hok _ hv => ?_⟩
    obtain ⟨t, rfl, hn⟩ := hv.str_inv
    have hl : s.length = t.size := (len_of hn).symm
    refine ⟨fun w => by rw [hl]; rfl, t.data.map fun b => .int .u8 b.toNat, ?_, by rw [hl, Array.size_map, Nat.mul_one]; rfl, fun w' _ => ?_⟩
    · rw [Array.toList_map]
      exact bytesV_VL hn
    · have e : t.extract 0 s.length = t := by
        rw [hl]; simp
      simp only [Builtin.firstCells, e, Sem.run_pure]
  · rename_i b o len cap ext
    obtain ⟨bl, hb, hk⟩ := getB_inv hk
    obtain ⟨cs, el, fz, p, z, hc, hk⟩ := onCells_inv hk
    obtain ⟨h1, hk⟩ := rdropK_inv hk
    rw [fN_eq] at hk
    obtain ⟨h2, hk⟩ := rtakeK_inv hk
    refine ⟨_, _, [b], hk, fun σ G w v hok he hv => ?_⟩
    obtain ⟨B, c, hB, rfl, _⟩ := (hv : ∃ x c, _)
    have hG := rst_ext he hb (by simp)
    obtain ⟨B', hB', hr⟩ := hok.rel b bl hG
    rw [hB] at hB'; cases hB'
    rw [hc] at hr
    obtain ⟨us, h3, h4, h5⟩ := rel_cells hr h1 h2
    refine ⟨fun w => rfl, us.toArray, h4, by simpa using h3, fun w' hw' => ?_⟩
    have hld := run_loadCells_list (P := X.P) w' (⟨B.r, B.o + o, none⟩ : Addr) us (fun j u hu => by
      have := h5 j u hu
      simp only [World.cell?, hw'] at this ⊢
      exact this)
    rw [h3] at hld
    exact hld
  · cases hk

theorem growBy4 (m c : Nat) (h : c < m) : Builtin.growBy m 4 c ≤ 4 * m + 4096 := by
  simp only [Builtin.growBy]
  repeat' split
  all_goals omega
theorem nextcap_le (m c : Nat) (h : c < m) : Builtin.nextslicecap m c ≤ 4 * m + 4096 := by
  unfold Builtin.nextslicecap
  split
  · omega
  · split
    · omega
    · exact growBy4 m c h

theorem app_sems {t ty e : TypeId} {ats : Array TypeId} {i : TypeInfo} {d : TypeDesc} {t2 : TypeId} {args : Array Value} {base : Option Addr} {len c m : Nat} {x : Value} (h0 : ats[0]? = some t) (h1 : ats[1]? = some t2) (ht : X.E.und t = some (.slice e)) (ht2 : X.E.und t2 = some d) (hd : (∃ e, d = .slice e) ∨ d = .string)
    (hi : X.E.ty e = some i) (ha : args = #[.slice base len c, x]) (hlen : ∀ w, (Builtin.lenOf x).run X.P w = .ok m w) :
    (len + m ≤ c → ∀ us w', (Builtin.firstCells i.size m x).run X.P w = .ok us w → ((match base with | some a => storeCells (a.add (len * i.size)) us.toList | none => pure ()) : Sem Unit).run X.P w = .ok () w' → (Builtin.append_ ats ty args).run X.P w = .ok (.slice base (len + m) c) w') ∧
    (c < len + m → len + m ≤ 16777216 → (4 * (len + m) + 4096) * i.bytes ≤ 281474976710656 → ∀ zv us olds, i.zero = some zv → (Builtin.firstCells i.size len (.slice base len c)).run X.P w.drew = .ok olds w.drew → (Builtin.firstCells i.size m x).run X.P w.drew = .ok us w.drew →
      ∃ cap', len + m ≤ cap' ∧ (Builtin.append_ ats ty args).run X.P w = .ok (.slice (some ⟨w.heap.size, 0, none⟩) (len + m) cap') (w.drew.alloc (.cells (olds ++ us ++ Builtin.zeroCells zv.cells (cap' - (len + m))) e))) := by
  have hz : ∀ w, (underlying t2).run X.P w = .ok d w := fun w => run_und ht2 w
  refine ⟨fun hle us w' hus hst => ?_, fun hg hbig hby zv us olds hz0 hold hus => ?_⟩
  · subst ha
    rcases hd with ⟨e', rfl⟩ | rfl
    all_goals
      simp only [Builtin.append_, List.getElem?_toArray, List.getElem?_cons_zero, List.getElem?_cons_succ, h0, h1, Sem.run_bind, run_und ht, Result.andThen_ok, run_size hi, hz, Sem.run_pure, Bool.false_eq_true, if_false, hlen, if_pos hle, Bool.not_false, if_true, hus]
      cases base with
      | none =>
        simp only at hst
        cases hst
        rfl
      | some b => simp only at hst; simp only [Sem.run_bind, hst, Result.andThen_ok, Sem.run_pure]
  · subst ha
    have hn : ¬ (len + m ≤ c) := by omega
    have g1 : ¬ (((len + m : Nat) : Int) > IntKind.i64.max ∧ (False ∨ i.bytes = 0)) := by
      rintro ⟨h, _⟩
      have : IntKind.i64.max = 9223372036854775807 := by decide
      omega
    have g2 : ¬ (Builtin.nextslicecap (len + m) c * i.bytes > 2 ^ 48) := by
      have h3 := nextcap_le (len + m) c hg
      have h4 : Builtin.nextslicecap (len + m) c * i.bytes ≤ (4 * (len + m) + 4096) * i.bytes := Nat.mul_le_mul_right _ h3
      have : (2 : Nat) ^ 48 = 281474976710656 := by decide
      omega
    refine ⟨grownCap w (len + m) c e, ?_, ?_⟩
    · unfold grownCap; simp only [Question.cut]; omega
    · rcases hd with ⟨e', rfl⟩ | rfl
      all_goals
        simp only [Builtin.append_, List.getElem?_toArray, List.getElem?_cons_zero, List.getElem?_cons_succ, h0, h1, Sem.run_bind, run_und ht, Result.andThen_ok, run_size hi, hz, Sem.run_pure, Bool.false_eq_true, if_false, hlen, if_neg hn, Bool.not_false, if_true, run_info hi, if_neg g1, if_neg g2, run_choose_drew, Question.forced, run_askRoom, run_zero hi hz0, newRow, run_newObj_alloc]
        simp only [hold, hus, Result.andThen_ok, World.size_drew, grownCap, run_newObj_alloc, Sem.run_pure]

noncomputable def roomK (need bytes : Nat) (k : Bool) : Bool := chk (Nat.ble need 16777216) (chk (Nat.ble (Nat.mul (Nat.add (Nat.mul 4 need) 4096) bytes) 281474976710656) k)
theorem roomK_inv {need bytes : Nat} {k : Bool} (h : roomK need bytes k = true) : need ≤ 16777216 ∧ (4 * need + 4096) * bytes ≤ 281474976710656 ∧ k = true := by
  obtain ⟨h1, h⟩ := chk_eq h
  obtain ⟨h2, h⟩ := chk_eq h
  exact ⟨ble_true.1 h1, ble_true.1 h2, h⟩
noncomputable def opApp (el es bytes : Nat) (s x : MO) (fr : Fr) (h : H) (k : Kt) : Bool := s.getK fr fun s => x.getK fr fun x => newsK es x h fun row m => match s with
  | .nils => sel (Nat.beq m 0) (k .nils h) (roomK m bytes (newB h (.cells row el 0 true true) fun b h => k (.sl b 0 m m es) h))
  | .sl b o len cap ext => fN (Nat.add len m) fun need => sel (Nat.ble need cap)
      (sel (Nat.beq m 0) (k (.sl b o len cap ext) h)
        (getB h b fun bl => chk (!bl.ro) (onCells bl.c fun cs el' fz p z => fN (Nat.add o (Nat.mul len es)) fun at_ => chk (Nat.ble fz at_) (onesK row (spliceK at_ row cs fun cs' => putB h b (.cells cs' el' fz p z) fun h => k (.sl b o need cap ext) h)))))
      (roomK need bytes (getB h b fun bl => onCells bl.c fun cs el' fz p z => rdropK o cs fun l => fN (Nat.mul len es) fun q => rtakeK q l fun old => rappK old row fun r =>
        sel (Nat.beq ext 0) (newB h (.cells r el 0 true true) fun nb h => k (.sl nb 0 need need es) h)
          (chk (!bl.ro) (chk (Nat.beq ext es) (chk (Nat.beq el el') (chk (Nat.ble fz (Nat.add o q)) (onesK row (fN (Nat.sub fz o) fun fz' => setB h b none fun h => newB h (.cells r el fz' p false) fun nb h => k (.sl nb 0 need need es) h))))))))
  | _ => false

theorem zeroCells_size (zs : Array Value) (n : Nat) : (Builtin.zeroCells zs n).size = n * zs.size := by simp [Builtin.zeroCells]
theorem opApp_says {o : Oper} {c : Call} {t e t2 : TypeId} {i : TypeInfo} {d : TypeDesc} {z : AV} {s x : Operand} {ms mx : MO} {h : H} {k : Kt} (ho : o.op = .call c) (hc : c.callee = .builtin .append) (ha : c.args.toList = [s, x]) (h0 : c.argTypes[0]? = some t) (h1 : c.argTypes[1]? = some t2)
    (ht : X.E.und t = some (.slice e)) (ht2 : X.E.und t2 = some d) (hd : (∃ e, d = .slice e) ∨ d = .string) (hi : X.E.ty e = some i) (hz : zrow i = some z) (h00 : 0 < i.size) (hzl : z.len = i.size) (hms : mo X.ng n s = some ms) (hmx : mo X.ng n x = some mx)
    (hk : opApp e i.size i.bytes ms mx fr h k = true) : Says X n fr o h k := by
  have ha := args2 ha
  have ls : ∀ t, s = .tmp t → Lop o t := lop (by rw [ho]; simp [Op.operands, Call.operands, ha])
  have lx : ∀ t, x = .tmp t → Lop o t := lop (by rw [ho]; simp [Op.operands, Call.operands, ha])
  have hex : ∀ (a : Act) (r : Value) (w w' : World), (Builtin.append_ c.argTypes o.type #[a.eval s, a.eval x]).run X.P w = .ok r w' → (execOp a.eval o).run X.P w = .ok (.value r) w' := by
    intro a r w w' hr
    simp only [execOp, ho]
    obtain ⟨cs, hcs⟩ := run_call_builtin (a := a) (ty := o.type) hc w X.P
    rw [hcs]
    simp only [builtin]
    refine run_exec_value ?_
    rw [ha]
    simpa using hr
  obtain ⟨zv, hzv, hzV⟩ := zrow_V hz
  have hzs : zv.cells.size = i.size := by have := (hzV ⟨fun _ => none, ⟨fun _ => (.i64, 0), fun _ => 0⟩⟩).len; simp only [Array.length_toList] at this; omega
  unfold opApp at hk
  simp only [MO.getK_eq] at hk
  obtain ⟨row, m, S, hk, hnews⟩ := newsK_inv hk
  split at hk
  · rename_i hs
    have base : ∀ (σ : Sig) (a : Act), Fit X σ n fr a (Lop o) → a.eval s = .slice none 0 0 := fun σ a hf => by
      have := mo_V hms hf ls
      rw [hs] at this
      exact this
    rcases sel_eq hk with ⟨g, hk⟩ | ⟨g, hk⟩
    · rw [beq_true] at g
      refine ⟨⟨rst h S, noCh, h.next, h.next, _⟩, h, ⟨rst_sub, (by rw [app_no]), rfl, rfl, Nat.le_refl _, rfl, fun _ _ h => (by cases h), fun _ h => absurd rfl h⟩, hk, ?_⟩
      intro σ G a w hf hok hext _
      obtain ⟨hl, us, _, _, hu⟩ := hnews σ G w _ hok hext (mo_V hmx hf lx)
      rw [g] at hl hu
      obtain ⟨happ, _⟩ := app_sems (ty := o.type) (w := w) (base := none) (len := 0) (c := 0) (args := #[.slice none 0 0, a.eval x]) h0 h1 ht ht2 hd hi rfl hl
      refine ⟨.slice none 0 0, _, w, σ, hex a _ w w (by rw [base σ a hf]; exact happ (Nat.le_refl _) us w (hu w rfl) rfl), .inl rfl, rfl, Post.refl hok _⟩
    · rw [nbf] at g
      obtain ⟨g1, g2, hk⟩ := roomK_inv hk
      refine Says.allocD (v := fun b => .sl b 0 m m i.size) (rst h S) rst_sub hk fun σ G a w hf hok hext hn => ?_
      obtain ⟨hl, us, hV, hus, hu⟩ := hnews σ G w _ hok hext (mo_V hmx hf lx)
      obtain ⟨_, happ⟩ := app_sems (ty := o.type) (w := w) (base := none) (len := 0) (c := 0) (args := #[.slice none 0 0, a.eval x]) h0 h1 ht ht2 hd hi rfl hl
      obtain ⟨cap', hcap, hr⟩ := happ (by omega) (by omega) (by rw [Nat.zero_add]; exact g2) zv us #[] hzv rfl (hu _ rfl)
      rw [Nat.zero_add] at hr hcap
      refine ⟨_, _, w.drew, _, (#[] ++ us ++ Builtin.zeroCells zv.cells (cap' - m)).size, rfl, rfl, rfl, rfl, hex a _ w _ (by rw [base σ a hf]; exact hr), .inl rfl, fun τ _ hle hbk => ⟨⟨_, cap', hbk, rfl, Nat.le_refl _, hcap, fun h => ?_, fun _ => ?_⟩, fun w' hw' => relNew (rest := (Builtin.zeroCells zv.cells (cap' - m)).toList) hw' (hV.mono hle) (by simp)⟩⟩
      · exact absurd h (by omega)
      · simp only [Array.size_append, zeroCells_size, hzs, hus]
        show 0 + cap' * i.size = 0 + m * i.size + (cap' - m) * i.size
        rw [Nat.sub_mul]
        have : m * i.size ≤ cap' * i.size := Nat.mul_le_mul_right _ hcap
        omega
  · rename_i b ob len cap ext hs
    rw [fN_eq] at hk
    change sel (Nat.ble (len + m) cap) _ _ = true at hk
    have base : ∀ (σ : Sig) (a : Act), Fit X σ n fr a (Lop o) → ∃ B c', σ.bk b = some B ∧ a.eval s = .slice (some ⟨B.r, B.o + ob, none⟩) len c' ∧ len ≤ cap ∧ cap ≤ c' ∧ (ext = 0 → c' = cap) ∧ (ext ≠ 0 → ob + c' * ext = B.n) := fun σ a hf => by
      have := mo_V hms hf ls
      rw [hs] at this
      exact this
    rcases sel_eq hk with ⟨g, hk⟩ | ⟨g, hk⟩
    · rw [ble_true] at g
      rcases sel_eq hk with ⟨g0, hk⟩ | ⟨g0, hk⟩
      · rw [beq_true] at g0
        subst g0
        refine ⟨⟨rst h S, noCh, h.next, h.next, _⟩, h, ⟨rst_sub, (by rw [app_no]), rfl, rfl, Nat.le_refl _, rfl, fun _ _ h => (by cases h), fun _ h => absurd rfl h⟩, hk, ?_⟩
        intro σ G a w hf hok hext _
        obtain ⟨hl, us, _, hus, hu⟩ := hnews σ G w _ hok hext (mo_V hmx hf lx)
        obtain ⟨B, c', hB, hv, q1, q2, q3, q4⟩ := base σ a hf
        have hus0 : us.toList = [] := by
          have : us.toList.length = 0 := by simp only [Array.length_toList]; omega
          exact List.length_eq_zero_iff.1 this
        obtain ⟨happ, _⟩ := app_sems (ty := o.type) (w := w) (base := some ⟨B.r, B.o + ob, none⟩) (len := len) (c := c') (args := #[.slice (some ⟨B.r, B.o + ob, none⟩) len c', a.eval x]) h0 h1 ht ht2 hd hi rfl hl
        exact ⟨_, _, w, σ, hex a _ w w (by rw [hv]; exact happ (by omega) us w (hu w rfl) (by simp only [hus0]; rfl)), .inl rfl, ⟨B, c', hB, rfl, q1, q2, q3, q4⟩, Post.refl hok _⟩
      · obtain ⟨bl, hb, hk⟩ := getB_inv hk
        obtain ⟨hro, hk⟩ := chk_eq hk
        obtain ⟨cs, el', fz, p, zf, hcl, hk⟩ := onCells_inv hk
        rw [fN_eq] at hk
        obtain ⟨hfz, hk⟩ := chk_eq hk
        obtain ⟨hk, hone⟩ := onesK_inv hk
        obtain ⟨hle, hk⟩ := spliceK_inv hk
        rw [ble_true] at hfz
        change fz ≤ ob + len * i.size at hfz
        change ob + len * i.size + row.len ≤ cs.len at hle
        refine Says.write (D := rst h (b :: S)) rst_sub (show rst h (b :: S) b = some bl by simp [rst, hb]) (by simpa using hro) hk fun σ G a w B hf hok hext hB hr => ?_
        rw [hcl] at hr
        obtain ⟨hl, us, hV, hus, hu⟩ := hnews σ G w _ hok (fun d y hy => hext d y (by
          simp only [rst] at hy ⊢
          split at hy
          · rename_i hd; rw [if_pos (List.mem_cons_of_mem _ hd)]; exact hy
          · cases hy)) (mo_V hmx hf lx)
        obtain ⟨B', c', hB', hv, q1, q2, q3, q4⟩ := base σ a hf
        rw [hB] at hB'; cases hB'
        obtain ⟨happ, _⟩ := app_sems (ty := o.type) (w := w) (base := some ⟨B.r, B.o + ob, none⟩) (len := len) (c := c') (args := #[.slice (some ⟨B.r, B.o + ob, none⟩) len c', a.eval x]) h0 h1 ht ht2 hd hi rfl hl
        obtain ⟨w', r1, r2, r3⟩ := rel_splice hr hV hle hfz (hone hV)
        refine ⟨_, _, w', hex a _ w w' (by rw [hv]; exact happ (by omega) us w' (hu w rfl) (by simp only [addr_add, Nat.add_assoc]; exact r1)), .inl rfl, ⟨B, c', hB, rfl, g, q2, q3, q4⟩, r2, r3⟩
    · obtain ⟨g1, g2, hk⟩ := roomK_inv hk
      have g : ¬ (len + m ≤ cap) := fun h => by rw [ble_true.2 h] at g; cases g
      obtain ⟨bl, hb, hk⟩ := getB_inv hk
      obtain ⟨cs, el', fz, p, zf, hcl, hk⟩ := onCells_inv hk
      obtain ⟨k1, hk⟩ := rdropK_inv hk
      rw [fN_eq] at hk
      obtain ⟨k2, hk⟩ := rtakeK_inv hk
      have hk := rappK_inv (m := row) (k := fun r => sel (Nat.beq ext 0) (newB h (.cells r e 0 true true) fun nb h => k (.sl nb 0 (len + m) (len + m) i.size) h)
          (chk (!bl.ro) (chk (Nat.beq ext i.size) (chk (Nat.beq e el') (chk (Nat.ble fz (Nat.add ob (Nat.mul len i.size))) (onesK row (fN (Nat.sub fz ob) fun fz' => setB h b none fun h => newB h (.cells r e fz' p false) fun nb h => k (.sl nb 0 (len + m) (len + m) i.size) h))))))) hk
      change len * i.size ≤ _ at k2
      have sub : ∀ G, Ext G (rst h (b :: S)) → Ext G (rst h S) := fun G hext d y hy => hext d y (by
          simp only [rst] at hy ⊢
          split at hy
          · rename_i hd; rw [if_pos (List.mem_cons_of_mem _ hd)]; exact hy
          · cases hy)
      -- the old cells, read in a world of the same memory
      have olds : ∀ (σ : Sig) (w : World) (B : Bk), RelC X σ w B (.cells cs el' fz p zf) → ∃ us : Array Value, us.size = len * i.size ∧ VL σ ((cs.drop ob).take (len * i.size)) us.toList ∧
          (∀ c' (w' : World), w'.heap = w.heap → (Builtin.firstCells i.size len (.slice (some ⟨B.r, B.o + ob, none⟩) len c')).run X.P w' = .ok us w') := by
        intro σ w B hr
        obtain ⟨us, h3, h4, h5⟩ := rel_cells hr k1 k2
        refine ⟨us.toArray, by simpa using h3, h4, fun c' w' hw' => ?_⟩
        have hld := run_loadCells_list (P := X.P) w' (⟨B.r, B.o + ob, none⟩ : Addr) us (fun j u hu => by
          have := h5 j u hu
          simp only [World.cell?, hw'] at this ⊢
          exact this)
        rw [h3] at hld
        exact hld
      -- a new row
      have fresh : ∀ (σ : Sig) (G : Hp) (a : Act) (w : World) (B : Bk) (c' : Nat), Fit X σ n fr a (Lop o) → Ok X σ G w → Ext G (rst h S) → a.eval s = .slice (some ⟨B.r, B.o + ob, none⟩) len c' → RelC X σ w B (.cells cs el' fz p zf) → c' < len + m →
          ∃ (cap' : Nat) (C : Array Value) (rest : List Value) (vs : List Value), len + m ≤ cap' ∧ C.size = cap' * i.size ∧ C.toList = vs ++ rest ∧ VL σ (((cs.drop ob).take (len * i.size)).app row) vs ∧
            (execOp a.eval o).run X.P w = .ok (.value (.slice (some ⟨w.heap.size, 0, none⟩) (len + m) cap')) (w.drew.alloc (.cells C e)) := by
        intro σ G a w B c' hf hok hext hv hr hcap
        obtain ⟨hl, us, hV, hus, hu⟩ := hnews σ G w _ hok hext (mo_V hmx hf lx)
        obtain ⟨os, ho1, ho2, ho3⟩ := olds σ w B hr
        obtain ⟨_, happ⟩ := app_sems (ty := o.type) (w := w) (base := some ⟨B.r, B.o + ob, none⟩) (len := len) (c := c') (args := #[.slice (some ⟨B.r, B.o + ob, none⟩) len c', a.eval x]) h0 h1 ht ht2 hd hi rfl hl
        obtain ⟨cap', hcap', hrun⟩ := happ hcap g1 g2 zv us os hzv (ho3 c' w.drew rfl) (hu w.drew rfl)
        refine ⟨cap', os ++ us ++ Builtin.zeroCells zv.cells (cap' - (len + m)), (Builtin.zeroCells zv.cells (cap' - (len + m))).toList, os.toList ++ us.toList, hcap', ?_, by simp, VL.app hV ho2, hex a _ w _ (by rw [hv]; exact hrun)⟩
        simp only [Array.size_append, zeroCells_size, hzs, hus, ho1]
        rw [← Nat.add_mul, ← Nat.add_mul]
        congr 1
        omega
      rcases sel_eq hk with ⟨ge, hk⟩ | ⟨ge, hk⟩
      · rw [beq_true] at ge
        refine Says.allocD (v := fun b => .sl b 0 (len + m) (len + m) i.size) (rst h (b :: S)) rst_sub hk fun σ G a w hf hok hext hn => ?_
        obtain ⟨B, c', hB, hv, q1, q2, q3, q4⟩ := base σ a hf
        have hG := rst_ext hext hb (by simp)
        obtain ⟨B', hB', hr⟩ := hok.rel b bl hG
        rw [hB] at hB'; cases hB'
        rw [hcl] at hr
        obtain ⟨cap', C, rest, vs, e1, e2, e3, e4, e5⟩ := fresh σ G a w B c' hf hok (sub G hext) hv hr (by have := q3 ge; omega)
        refine ⟨_, _, w.drew, _, C.size, rfl, rfl, rfl, rfl, e5, .inl rfl, fun τ _ hle hbk => ⟨⟨_, cap', hbk, rfl, Nat.le_refl _, e1, fun h => absurd h (by omega), fun _ => by simp only; omega⟩, fun w' hw' => relNew hw' (e4.mono hle) e3⟩⟩
      · rw [nbf] at ge
        obtain ⟨hro, hk⟩ := chk_eq hk
        obtain ⟨hes, hk⟩ := chk_eq hk
        obtain ⟨hel, hk⟩ := chk_eq hk
        obtain ⟨hfz, hk⟩ := chk_eq hk
        obtain ⟨hk, hone⟩ := onesK_inv hk
        rw [fN_eq] at hk
        obtain ⟨ha1, p1, p2, p3, hk⟩ := setB_inv hk
        obtain ⟨ha2, p4, p5, p6, hk9⟩ := newB_inv hk
        rw [beq_true] at hes hel
        rw [ble_true] at hfz
        change fz ≤ ob + len * i.size at hfz
        subst hel
        have hro : bl.ro = false := by simpa using hro
        rw [p1, p2, p3] at p4
        rw [p2] at p5 hk9
        rw [p3] at p6
        refine ⟨⟨rst h (b :: S), seqC (one b none) (one h.next (some ⟨h.clk, false, .cells (((cs.drop ob).take (len * i.size)).app row) e (fz - ob) p false⟩)), h.next, h.next + 1, .sl h.next 0 (len + m) (len + m) i.size⟩, ha2,
          ⟨rst_sub, (by rw [p4, app_seqC]; rfl), rfl, p5.symm, by omega, p6.symm, ?_, ?_⟩, hk9, ?_⟩
        · intro d y hy
          simp only [seqC, one] at hy
          by_cases e1 : d = h.next
          · subst e1; simp at hy; rw [← hy]
          · by_cases e2 : d = b
            · subst e2; simp [e1] at hy
            · simp [e1, e2] at hy
        · intro d hd'
          by_cases e1 : d = h.next
          · exact .inr ⟨by simp only; omega, by simp only; omega⟩
          · by_cases e2 : d = b
            · subst e2; exact .inl (by simp [rst, hb])
            · exact absurd (by simp [seqC, one, e1, e2]) hd'
        · intro σ G a w hf hok hext hfr
          have hn : σ.bk h.next = none := hfr _ (Nat.le_refl _) (Nat.lt_succ_self _)
          obtain ⟨B, c', hB, hv, q1, q2, q3, q4⟩ := base σ a hf
          have hG := rst_ext hext hb (by simp)
          obtain ⟨B', hB', hr⟩ := hok.rel b bl hG
          rw [hB] at hB'; cases hB'
          rw [hcl] at hr
          have q4 := q4 ge
          rw [hes] at q4
          by_cases hroom : len + m ≤ c'
          · -- there was room
            obtain ⟨hl, us, hV, hus, hu⟩ := hnews σ G w _ hok (sub G hext) (mo_V hmx hf lx)
            obtain ⟨C, f, ⟨tq, c1, ct⟩, c2, ⟨vs, c3, c4, c5⟩, c6, c7, c8⟩ := hr
            obtain ⟨os, ho1, ho2, ho3⟩ := olds σ w B ⟨C, f, ⟨tq, c1, ct⟩, c2, ⟨vs, c3, c4, c5⟩, c6, c7, c8⟩
            obtain ⟨happ, _⟩ := app_sems (ty := o.type) (w := w) (base := some ⟨B.r, B.o + ob, none⟩) (len := len) (c := c') (args := #[.slice (some ⟨B.r, B.o + ob, none⟩) len c', a.eval x]) h0 h1 ht ht2 hd hi rfl hl
            have hmul : (len + m) * i.size ≤ c' * i.size := Nat.mul_le_mul_right _ hroom
            rw [Nat.add_mul] at hmul
            have hul : us.toList.length = m * i.size := by simpa using hus
            obtain ⟨w', C', r1, r2, r3, r4, r5⟩ := run_storeCells' (X := X) (r := B.r) (o := B.o + ob + len * i.size) us.toList 0 C w c1 (by omega) (fun j hj => by
              have := c6 (ob + len * i.size + j) (by omega) (by omega)
              rwa [show B.o + (ob + len * i.size + j) = B.o + ob + len * i.size + 0 + j by omega] at this) (hone hV)
            have hvl := c3.len
            have hle : σ.le (σ.set h.next ⟨B.r, B.o + ob, B.n - ob⟩) := Sig.set_le hn
            refine ⟨_, _, w', σ.set h.next ⟨B.r, B.o + ob, B.n - ob⟩, hex a _ w w' (by rw [hv]; exact happ hroom us w' (hu w rfl) (by simp only [addr_add]; exact r1)), .inl rfl,
              ⟨_, c', Sig.set_same, rfl, Nat.le_refl _, hroom, fun h => absurd h (by omega), fun _ => by simp only; omega⟩,
              Post.move hok hn hG hro rfl hB rfl ?_ r5.size r5.oth r5.os r5.tape r5.output⟩
            refine ⟨C', f, ⟨tq, r2, ct⟩, by simp only; omega, ⟨os.toList ++ us.toList, (VL.app hV ho2).mono hle, ?_, ?_⟩, ?_, c7, fun h => (by cases h)⟩
            · simp only [List.length_append, Array.length_toList]; omega
            · intro j v hj
              rw [r4]
              have ho1' : os.toList.length = len * i.size := by simpa using ho1
              by_cases e1 : j < len * i.size
              · rw [List.getElem?_append_left (by omega)] at hj
                rw [if_neg (by simp only; omega)]
                -- an old cell
                have hold : os.toList = (vs.drop ob).take (len * i.size) := by
                  have hld := ho3 c' w rfl
                  have hld2 := run_loadCells_list (P := X.P) w (⟨B.r, B.o + ob, none⟩ : Addr) ((vs.drop ob).take (len * i.size)) (fun j u hu => by
                    rw [List.getElem?_take] at hu
                    split at hu
                    · rw [List.getElem?_drop] at hu
                      have := c5 (ob + j) u hu
                      simp [World.cell?, c1, addr_add, Nat.add_assoc, this]
                    · cases hu)
                  have hlen2 : ((vs.drop ob).take (len * i.size)).length = len * i.size := by
                    have := (VL.drop c3 k1).len
                    rw [List.length_take]; omega
                  rw [hlen2] at hld2
                  simp only [Builtin.firstCells] at hld
                  rw [hld2] at hld
                  injection hld with hld _
                  rw [← hld]
                rw [hold, List.getElem?_take, if_pos e1, List.getElem?_drop] at hj
                have := c5 (ob + j) v hj
                rwa [show B.o + (ob + j) = B.o + ob + j by omega] at this
              · rw [List.getElem?_append_right (by omega)] at hj
                have hj2 := (List.getElem?_eq_some_iff.1 hj).1
                rw [if_pos (by simp only; omega)]
                rw [ho1'] at hj
                rw [← hj]
                congr 1
                simp only
                omega
            · intro j hj1 hj2
              simp only at hj2 ⊢
              have := c6 (ob + j) (by omega) (by omega)
              rwa [show B.o + (ob + j) = B.o + ob + j by omega] at this
          · -- there was none
            obtain ⟨cap', C, rest, vs, e1, e2, e3, e4, e5⟩ := fresh σ G a w B c' hf hok (sub G hext) hv hr (by omega)
            have hle : σ.le (σ.set h.next ⟨w.heap.size, 0, C.size⟩) := Sig.set_le hn
            have hw' : (w.drew.alloc (.cells C e)).heap[w.heap.size]? = some (.cells C e (0, 0)) := heap_alloc_new' w.drew _
            obtain ⟨C2, f2, d1, d2, d3, d4, d5, _⟩ := relNew (X := X) (zs := ((cs.drop ob).take (len * i.size)).app row) hw' (e4.mono hle) e3
            have d6 := d5 rfl
            have pd := (Post.drop (b := b) hok h.next).trans (Post.drew (Post.drop (b := b) hok h.next).ok h.next) (Nat.le_refl _) (Nat.le_refl _)
            have pa := Post.alloc (id := h.next) (m := C.size) (bl := ⟨h.clk, false, .cells (((cs.drop ob).take (len * i.size)).app row) e (fz - ob) p false⟩) (ob := .cells C e) pd.ok hn rfl
              ⟨C2, f2, d1, d2, d3, fun j _ _ hj => by rw [d6] at hj; omega, fun _ => d6, fun h => (by cases h)⟩
            rw [← app_seqC] at pa
            exact ⟨_, _, _, _, e5, .inl rfl, ⟨_, cap', Sig.set_same, rfl, Nat.le_refl _, e1, fun h => absurd h (by omega), fun _ => by simp only [World.size_drew]; omega⟩, pd.trans pa (Nat.le_refl _) (Nat.le_succ _)⟩
  · cases hk

end Go.Ev
end

section
set_option linter.unusedVariables false
set_option linter.unusedSimpArgs false
namespace Go.Ev

variable {X : Cx} {σ : Sig} {n : Nat} {fr : Fr} {a : Act} {w : World} {L : Tmp → Prop}

/-! ### texts and bytes -/
noncomputable def opCvsb (el : Nat) (x : MO) (fr : Fr) (h : H) (k : Kt) : Bool := x.getK fr fun a => match a with
  | .str s => lenK s 0 fun m => bytesRow s fun r => newB h (.cells r el 0 false true) fun b h => k (.sl b 0 m m 1) h
  | _ => false
theorem opCvsb_says {o : Oper} {s d e : TypeId} {x : Operand} {m : MO} {h : H} {k : Kt} (ho : o.op = .convert s d x) (hs : X.E.und s = some .string) (hd : X.E.und d = some (.slice e)) (he : X.E.und e = some (.int .u8)) (hm : mo X.ng n x = some m)
    (hk : opCvsb e m fr h k = true) : Says X n fr o h k := by
  unfold opCvsb at hk
  rw [MO.getK_eq] at hk
  split at hk
  · rename_i t ht
    rw [lenK_eq, bytesRow_eq, Nat.zero_add] at hk
    refine Says.alloc (v := fun b => .sl b 0 t.length t.length 1) hk fun σ G a w hf hok hn => ?_
    have hv := mo_V hm hf (lop (by rw [ho]; simp [Op.operands]))
    rw [ht] at hv
    obtain ⟨u, hu, hnu⟩ := hv.str_inv
    have hr := run_bytes_of_string (P := X.P) w s d e u (X.ok.und hs) (X.ok.und hd) (X.ok.und he)
    have hlen : u.size = t.length := len_of hnu
    have hcap : u.size ≤ grownCap w u.size 0 e := by unfold grownCap; simp only [Question.cut]; omega
    have hsz : (Go.bytesRow u (grownCap w u.size 0 e)).size = grownCap w u.size 0 e := by
      simp only [Go.bytesRow, Array.size_append, Array.size_map, Array.size_replicate]
      show u.size + _ = _
      omega
    refine ⟨.slice (some ⟨w.heap.size, 0, none⟩) u.size (grownCap w u.size 0 e), _, w.drew, .cells (Go.bytesRow u (grownCap w u.size 0 e)) e ((Go.bytesRow u (grownCap w u.size 0 e)).size, (Go.bytesRow u (grownCap w u.size 0 e)).size + 1), (Go.bytesRow u (grownCap w u.size 0 e)).size, rfl, rfl, rfl, rfl, ?_, .inl rfl, fun τ _ hle hbk => ⟨⟨_, grownCap w u.size 0 e, hbk, by rw [hlen], Nat.le_refl _, by omega, fun h => (by cases h), fun _ => (by simp only; omega)⟩, fun w' hw' => ?_⟩⟩
    · simp only [execOp, ho]
      refine run_exec_value ?_
      rw [hu]; exact hr
    · refine ⟨_, _, .mk hw', by simp, ⟨(u.data.map fun b => Value.int .u8 b.toNat).toList, ?_, ?_, fun i v hi => ?_⟩, fun i _ hi h => by simp only at hi h; omega, fun h => (by cases h), fun _ => rfl⟩
      · rw [Array.toList_map]
        exact bytesV_VL (by rw [hle.2]; exact hnu)
      · simp only [hsz, Array.toList_map, List.length_map, Array.length_toList]
        show u.size ≤ _
        omega
      · have hi2 := (List.getElem?_eq_some_iff.1 hi).1
        simp only [Array.toList_map, List.length_map, Array.length_toList] at hi2
        simp only [Nat.zero_add, Go.bytesRow]
        rw [Array.getElem?_append_left (by simpa using hi2)]
        rw [Array.getElem?_toList] at hi
        exact hi
  · cases hk

noncomputable def u8K (x : AV) (k : Nat → Bool) : Bool := match x with | .int .u8 (.ofNat c) => chk (Nat.ble c 255) (k c) | .sym c => chk (Nat.ble 256 c) (k c) | _ => false
theorem u8K_inv {x : AV} {k : Nat → Bool} (h : u8K x k = true) : ∃ c, k c = true ∧ ∀ {σ : Sig} {v : Value}, V σ x v → v = .int .u8 (σ.sym.bv c : Nat) := by
  unfold u8K at h
  split at h
  · obtain ⟨h1, h⟩ := chk_eq h
    rw [ble_true] at h1
    exact ⟨_, h, fun {σ v} hv => by rw [σ.sym.bv_lt (by omega)]; exact hv⟩
  · obtain ⟨h1, h⟩ := chk_eq h
    rw [ble_true] at h1
    exact ⟨_, h, fun {σ v} hv => by rw [← σ.sym.val_dig h1]; exact hv⟩
  · cases h
noncomputable def rowBytes (a : AV) (k : List Nat → Bool) : Bool :=
  AV.rec (motive := fun _ => (List Nat → Bool) → Bool) (fun _ => false) (fun _ _ => false) (fun _ _ => false) (fun _ _ _ => false) (fun _ _ => false) (fun _ => false) (fun _ _ _ => false) (fun _ => false) (fun _ _ _ _ _ _ => false) (fun _ => false) (fun _ _ => false) (fun _ _ _ _ _ _ => false) (fun _ _ => false) (fun _ => false) (fun _ _ _ _ => false) (fun _ => false) (fun _ _ _ => false) (fun _ _ _ => false)
    (fun k => k []) (fun x _ _ ih k => u8K x fun c => ih fun r => k (c :: r)) a k
theorem rowBytes_inv : ∀ {a : AV} {k : List Nat → Bool}, rowBytes a k = true → ∃ s : List Nat, k s = true ∧ ∀ {σ : Sig} {vs : List Value}, VL σ a vs → ∃ t : List UInt8, vs = (t.map fun c => Value.int .u8 (c.toNat : Int)) ∧ t.map UInt8.toNat = s.map σ.sym.bv := by
  intro a
  induction a with
  | nil => exact fun {k} h => ⟨[], h, fun hv => ⟨[], hv.nil_inv, rfl⟩⟩
  | cons x l _ ih =>
    intro k h
    obtain ⟨c, h, h1⟩ := u8K_inv h
    obtain ⟨s, h2, h3⟩ := ih h
    refine ⟨c :: s, h2, fun {σ vs} hv => ?_⟩
    have e : (UInt8.ofNat (σ.sym.bv c)).toNat = σ.sym.bv c := by simp [UInt8.toNat_ofNat, Nat.mod_eq_of_lt (σ.sym.bv_byte c)]
    obtain ⟨v, us, rfl, g1, g2⟩ := hv.cons_inv
    obtain ⟨t, rfl, h4⟩ := h3 g2
    exact ⟨UInt8.ofNat (σ.sym.bv c) :: t, by rw [List.map_cons, e, h1 g1], by rw [List.map_cons, e, h4]; rfl⟩
  | _ => intro k h; cases h

noncomputable def opCvbs (x : MO) (fr : Fr) (h : H) (k : Kt) : Bool := x.getK fr fun a => match a with
  | .nils => k (.str []) h
  | .sl b o len _ _ => getB h b fun bl => onCells bl.c fun cs _ _ _ _ => rdropK o cs fun l => rtakeK len l fun l => rowBytes l fun s => k (.str s) h
  | _ => false
theorem opCvbs_saysF {o : Oper} {s d e : TypeId} {x : Operand} {m : MO} {h : H} {k : Kt} (ho : o.op = .convert s d x) (hs : X.E.und s = some (.slice e)) (hd : X.E.und d = some .string) (he : X.E.und e = some (.int .u8)) (hm : mo X.ng n x = some m)
    (hk : opCvbs m fr h k = true) : SaysF X n fr o h k (bkOf (m.val fr)) false := by
  unfold opCvbs at hk
  rw [MO.getK_eq] at hk
  have lx : ∀ t, x = .tmp t → Lop o t := lop (by rw [ho]; simp [Op.operands])
  split at hk
  · rename_i ht
    refine SaysF.pure ⟨_, hk, pureV (s := fun a => convert s d (a.eval x)) (fun a => by simp only [execOp, ho]) fun σ a w hf => ⟨.string .empty, ?_, _, rfl, rfl⟩⟩
    have hv := mo_V hm hf lx
    rw [ht] at hv
    have hv : a.eval x = .slice none 0 0 := hv
    rw [hv, run_convert_bytes_string w s d e none 0 0 (X.ok.und hs) (X.ok.und he) (X.ok.und hd)]
    rfl
  · rename_i b ob len cap ext ht
    obtain ⟨bl, hb, hk⟩ := getB_inv hk
    obtain ⟨cs, el, fz, p, z, hc, hk⟩ := onCells_inv hk
    obtain ⟨h1, hk⟩ := rdropK_inv hk
    obtain ⟨h2, hk⟩ := rtakeK_inv hk
    obtain ⟨t0, hk, hrow⟩ := rowBytes_inv hk
    refine SaysF.read (by rw [ht]; exact List.mem_cons_self) hb hk fun σ a w B hf hB hr => ?_
    have hv := mo_V hm hf lx
    rw [ht] at hv
    obtain ⟨B', c, hB', hvv, _⟩ := (hv : ∃ x c, _)
    rw [hB] at hB'; cases hB'
    rw [hc] at hr
    obtain ⟨us, e1, e2, e3⟩ := rel_cells hr h1 h2
    obtain ⟨t, e4, e6⟩ := hrow e2
    have e5 : t.length = len := by rw [← e1, e4, List.length_map]
    have hconv := run_convert_bytes_back (P := X.P) w s d e (⟨B.r, B.o + ob, none⟩ : Addr) c t (X.ok.und hs) (X.ok.und he) (X.ok.und hd) (fun j hj => e3 j _ (by rw [e4]; simp [hj]))
    rw [e5] at hconv
    refine ⟨.string ⟨t.toArray⟩, ?_, ⟨t.toArray⟩, rfl, ?_⟩
    · simp only [execOp, ho]
      refine run_exec_value ?_
      rw [hvv]; exact hconv
    · simpa [nums] using e6
  · cases hk

end Go.Ev
end

section
set_option linter.unusedVariables false
set_option linter.unusedSimpArgs false
namespace Go.Ev

variable {X : Cx} {σ : Sig} {n : Nat} {fr : Fr} {a : Act} {w : World} {L : Tmp → Prop}

/-! ### keys -/
/-- are two numbers, two texts alike? -/
noncomputable def celEq (a b : AV) : Option Bool := match a, b with
  | .int k a, .int k' b => if k = k' then some (ieq a b) else none
  | .str s, .str t => eqO s t
  | _, _ => none
noncomputable def rowEq (a : AV) : AV → Option Bool :=
  AV.rec (motive := fun _ => AV → Option Bool) (fun _ => none) (fun _ _ => none) (fun _ _ => none) (fun _ _ _ => none) (fun _ _ => none) (fun _ => none) (fun _ _ _ => none) (fun _ => none) (fun _ _ _ _ _ _ => none) (fun _ => none) (fun _ _ => none) (fun _ _ _ _ _ _ => none) (fun _ _ => none) (fun _ => none) (fun _ _ _ _ => none) (fun _ => none) (fun _ _ _ => none) (fun _ _ _ => none)
    (fun m => match m with | .nil => some true | _ => none)
    (fun x _ _ ih m => match m with | .cons y m => Option.rec (motive := fun _ => Option Bool) none (fun r => Bool.rec (motive := fun _ => Option Bool) (some false) (ih m) r) (celEq x y) | _ => none) a
theorem rowEq_cons {x y l m : AV} {b : Bool} (h : rowEq (.cons x l) (.cons y m) = some b) : ∃ r, celEq x y = some r ∧ some b = (if r = true then rowEq l m else some false) := by
  change Option.rec (motive := fun _ => Option Bool) none (fun r => Bool.rec (motive := fun _ => Option Bool) (some false) (rowEq l m) r) (celEq x y) = some b at h
  cases hc : celEq x y with
  | none => rw [hc] at h; cases h
  | some r =>
    rw [hc] at h
    refine ⟨r, rfl, ?_⟩
    cases r
    · exact h.symm
    · exact h.symm
noncomputable def keyE (kd : EK) (a b : AV) : Option Bool := match kd with
  | .i => (match a with | .int _ _ => celEq a b | _ => none)
  | .s => (match a with | .str _ => celEq a b | _ => none)
  | .z => (match a with | .agg l => (match b with | .agg m => rowEq l m | _ => none) | _ => none)
  | _ => none
/-- what a type of keys is like -/
def KeyD (E : Env) : EK → TypeDesc → Prop
  | .i, d => ∃ k, d = .int k
  | .s, d => d = .string
  | .z, d => ∃ fs, d = .struct fs ∧ okFields E 0 fs.toList = true
  | _, _ => False
theorem ckey_inv {E : Env} {t : TypeId} {kd : EK} (h : ckey E t = some kd) : ∃ d, E.und t = some d ∧ KeyD E kd d ∧ (kd = .z → E.ns t = true) := by
  unfold ckey at h
  simp only [Option.bind_eq_bind, Option.bind_eq_some_iff] at h
  obtain ⟨d, hd, h⟩ := h
  split at h
  · cases h; exact ⟨_, hd, ⟨_, rfl⟩, fun h => by cases h⟩
  · cases h; exact ⟨_, hd, rfl, fun h => by cases h⟩
  · split at h
    · rename_i h1
      cases h
      simp only [Bool.and_eq_true] at h1
      exact ⟨_, hd, ⟨_, rfl, h1.1⟩, fun _ => h1.2⟩
    · cases h
  · cases h

theorem ieq_iff {a b : Int} : ieq a b = true ↔ a = b := by rw [ieq_eq]; simp
theorem eqL_iff {s t : List Nat} : eqL s t = true ↔ s = t := by rw [eqL_eq]; simp

theorem bbeq (b c : ByteArray) : (b == c) = decide (nums b = nums c) := by
  rw [beq_toListBytes, ByteArray.toList_eq, ByteArray.toList_eq]
  by_cases q : b = c
  · subst q; simp
  · have h1 : nums b ≠ nums c := fun e => q (nums_inj e)
    have h2 : b.data.toList ≠ c.data.toList := fun e => h1 (by unfold nums; rw [e])
    have h3 : b.data ≠ c.data := fun e => h2 (by rw [e])
    simp [h1, h3]
/-- two cells, by their type -/
theorem celEq_sound {x y : AV} {r : Bool} (h : celEq x y = some r) {t : TypeId} {d : TypeDesc} (hd : X.E.und t = some d) (hk : d = .string ∨ ∃ k, d = .int k) {u v : Value} (hu : V σ x u) (hv : V σ y v) (D : Nat) (w : World) (hok : (d = .string ↔ ∃ s, x = .str s)) :
    (Op.equalIn (D + 1) t u v).run X.P w = .ok r w := by
  unfold celEq at h
  split at h
  · rename_i k i k' j
    split at h
    · rename_i hkk
      subst hkk
      cases h
      cases hu.int_inv; cases hv.int_inv
      have : d ≠ .string := fun e => by obtain ⟨s, hs⟩ := hok.1 e; cases hs
      obtain ⟨q, rfl⟩ := hk.resolve_left this
      simp only [Op.equalIn, Sem.run_bind, run_und hd, Result.andThen_ok, if_true, Sem.run_pure, ieq_eq]
    · cases h
  · rename_i s t'
    obtain ⟨b1, rfl, e1⟩ := hu.str_inv
    obtain ⟨b2, rfl, e2⟩ := hv.str_inv
    have := hok.2 ⟨_, rfl⟩
    subst this
    simp only [Op.equalIn, Sem.run_bind, run_und hd, Result.andThen_ok, Sem.run_pure]
    rw [bbeq, e1, e2, eqO_inv h]
  · cases h

/-- fields one behind the other against rows: their types are those of the rows' values -/
def rowFits (E : Env) : List Go.Field → AV → Prop
  | [], .nil => True
  | f :: fs, .cons x l => (E.und f.type = some .string ↔ ∃ s, x = .str s) ∧ rowFits E fs l
  | _, _ => False
theorem run_eqFields {D : Nat} {xs ys : Array Value} : ∀ (fs : List Go.Field) (j : Nat) (l m : AV) (us vs : List Value) (b : Bool), okFields X.E j fs = true → rowFits X.E fs l → rowEq l m = some b → VL σ l us → VL σ m vs →
    (∀ i, us[i]? = xs[j + i]?) → (∀ i, vs[i]? = ys[j + i]?) → ∀ w, (Op.eqFields (D + 1) xs ys fs).run X.P w = .ok b w
  | [], j, l, m, us, vs, b, _, hfit, hb, hl, hm, _, _, w => by
    cases l with
    | nil =>
      cases m with
      | nil => cases hb; rfl
      | _ => cases hb
    | _ => exact hfit.elim
  | f :: fs, j, l, m, us, vs, b, hf, hfit, hb, hl, hm, hx, hy, w => by
    simp only [okFields, Bool.and_eq_true, decide_eq_true_eq] at hf
    obtain ⟨⟨⟨h1, h2⟩, h3⟩, h4⟩ := hf
    have hag : ∃ d, X.E.und f.type = some d ∧ isAggD d = false ∧ (d = .string ∨ ∃ k, d = .int k) := by
      split at h3
      · exact ⟨_, by assumption, rfl, .inr ⟨_, rfl⟩⟩
      · exact ⟨_, by assumption, rfl, .inl rfl⟩
      · cases h3
    obtain ⟨d, hd, hag, hk⟩ := hag
    have part1 : ∀ (cs : Array Value) (v : Value) (w : World), cs[j]? = some v → (part f.type cs f.offset).run X.P w = .ok v w := fun cs v w hv => by
      simp only [part, Sem.run_bind, run_isAgg hd, hag, Result.andThen_ok, Bool.false_eq_true, if_false, h2, hv, Sem.run_pure]
    cases l with
    | cons x l =>
      cases m with
      | cons y m =>
        obtain ⟨r, hr, hbb⟩ := rowEq_cons hb
        obtain ⟨hf1, hf2⟩ := hfit
        obtain ⟨u, us', rfl, g1, g2⟩ := hl.cons_inv
        obtain ⟨v, vs', rfl, g3, g4⟩ := hm.cons_inv
        have q1 := hx 0
        have q2 := hy 0
        simp only [List.getElem?_cons_zero, Nat.add_zero] at q1 q2
        have heq := celEq_sound (X := X) hr hd hk g1 g3 D w (by rw [← hf1, hd]; simp)
        simp only [Op.eqFields, if_pos h1, Sem.run_bind, part1 xs u w q1.symm, part1 ys v w q2.symm, Result.andThen_ok, heq]
        cases r with
        | true =>
          simp only [if_true] at hbb
          simp only [Bool.not_true, Bool.false_eq_true, if_false]
          exact run_eqFields fs (j + 1) l m us' vs' b h4 hf2 hbb.symm g2 g4 (fun i => by have := hx (i + 1); simp only [List.getElem?_cons_succ] at this; rw [this]; congr 1; omega)
            (fun i => by have := hy (i + 1); simp only [List.getElem?_cons_succ] at this; rw [this]; congr 1; omega) w
        | false =>
          simp only [Bool.false_eq_true, if_false, Option.some.injEq] at hbb
          subst hbb
          simp
      | _ => cases hb
    | _ => exact hfit.elim

/-! ### entries -/
noncomputable def findK (kd : EK) (key : AV) (es : Ents) (kf : AV → Bool) (kn : Bool) : Bool :=
  Ents.rec (motive := fun _ => Bool) kn (fun k v _ _ ih => Option.rec (motive := fun _ => Bool) false (fun r => sel r (kf v) ih) (keyE kd key k)) es
/-- the first entry of a key, in lists -/
inductive Finds (R : Value → Value → Bool → Prop) (key : Value) : List MapEntry → Nat → Option (Nat × Value) → Prop
  | nil (i : Nat) : Finds R key [] i none
  | hit (e : MapEntry) (es : List MapEntry) (i : Nat) : R key e.key true → Finds R key (e :: es) i (some (i, e.val))
  | miss (e : MapEntry) (es : List MapEntry) (i : Nat) (r : Option (Nat × Value)) : R key e.key false → Finds R key es (i + 1) r → Finds R key (e :: es) i r
/-- what 'alike' means for a kind of keys -/
def AlikeV (X : Cx) (t : TypeId) (d : TypeDesc) (kd : EK) (k k' : Value) (r : Bool) : Prop := match kd with
  | .i | .s => Instr.sameNow d k k' = some r ∧ (r = true → ∀ m, Instr.sameBits (m + 1) k' k = true)
  | .z => (∀ (D : Nat) (w : World), (Op.equalIn (D + 2) t k k').run X.P w = .ok r w) ∧ (∃ l, k = .agg l) ∧ (r = true → ∀ m, Instr.sameBits (m + 1) k' k = true)
  | _ => False
theorem findK_inv {kd : EK} {key : AV} {kf : AV → Bool} {kn : Bool} {R : Value → Value → Bool → Prop} (hR : ∀ {σ : Sig} {k : AV} {r : Bool} {u v : Value}, keyE kd key k = some r → V σ key u → V σ k v → R u v r) : ∀ {es : Ents}, findK kd key es kf kn = true →
    (∃ v, kf v = true ∧ ∀ (σ : Sig) (ES : List MapEntry) (u : Value) (i : Nat), EL σ es ES → V σ key u → ∃ j x, Finds R u ES i (some (j, x)) ∧ V σ v x) ∨
    (kn = true ∧ ∀ (σ : Sig) (ES : List MapEntry) (u : Value) (i : Nat), EL σ es ES → V σ key u → Finds R u ES i none)
  | .nil, h => .inr ⟨h, fun σ ES u i he hu => by cases (he : ES = []); exact .nil i⟩
  | .cons k v b l, h => by
    change Option.rec (motive := fun _ => Bool) false (fun r => sel r (kf v) (findK kd key l kf kn)) (keyE kd key k) = true at h
    cases hk : keyE kd key k with
    | none => rw [hk] at h; cases h
    | some r =>
      rw [hk] at h
      rcases sel_eq h with ⟨h1, h⟩ | ⟨h1, h⟩
      · refine .inl ⟨v, h, fun σ ES u i he hu => ?_⟩
        obtain ⟨e, us, rfl, g1, g2, g3, g4⟩ := he
        exact ⟨i, e.val, .hit e us i (h1 ▸ hR hk hu g1), g2⟩
      · rcases findK_inv hR (es := l) h with ⟨x, h2, h3⟩ | ⟨h2, h3⟩
        · refine .inl ⟨x, h2, fun σ ES u i he hu => ?_⟩
          obtain ⟨e, us, rfl, g1, g2, g3, g4⟩ := he
          obtain ⟨j, y, h4, h5⟩ := h3 σ us u (i + 1) g4 hu
          exact ⟨j, y, .miss e us i _ (h1 ▸ hR hk hu g1) h4, h5⟩
        · refine .inr ⟨h2, fun σ ES u i he hu => ?_⟩
          obtain ⟨e, us, rfl, g1, g2, g3, g4⟩ := he
          exact .miss e us i _ (h1 ▸ hR hk hu g1) (h3 σ us u (i + 1) g4 hu)

/-- the model's search -/
theorem run_findKey {t : TypeId} {d : TypeDesc} {kd : EK} (hd : X.E.und t = some d) {key : Value} {ES : List MapEntry} {r : Option (Nat × Value)} (h : Finds (AlikeV X t d kd) key ES 0 r) (hkd : kd = .i ∨ kd = .s ∨ (kd = .z ∧ ∃ fs, d = .struct fs)) (w : World) :
    (Instr.findKey t key ES).run X.P w = .ok r w := by
  have now : (kd = .i ∨ kd = .s) → ∀ (ES : List MapEntry) (i : Nat) (r : Option (Nat × Value)), Finds (AlikeV X t d kd) key ES i r → Instr.findNow d key ES i = some r := by
    intro hk ES i r h
    induction h with
    | nil i => rfl
    | hit e es i h => rcases hk with rfl | rfl <;> simp only [Instr.findNow, h.1]
    | miss e es i r h _ ih => rcases hk with rfl | rfl <;> simp only [Instr.findNow, h.1, ih]
  have asking : kd = .z → ∀ (ES : List MapEntry) (i : Nat) (r : Option (Nat × Value)), Finds (AlikeV X t d kd) key ES i r → (Instr.findAsking t key ES i).run X.P w = .ok r w := by
    intro hk ES i r h
    subst hk
    induction h with
    | nil i => rfl
    | hit e es i h =>
      have := h.1 9998 w
      have h' : (Op.equal t key e.key).run X.P w = .ok true w := this
      simp only [Instr.findAsking, Sem.run_bind, h', Result.andThen_ok, if_true, Sem.run_pure]
    | miss e es i r h _ ih =>
      have := h.1 9998 w
      have h' : (Op.equal t key e.key).run X.P w = .ok false w := this
      simp only [Instr.findAsking, Sem.run_bind, h', Result.andThen_ok, Bool.false_eq_true, if_false, ih]
  simp only [Instr.findKey, Sem.run_bind, run_und hd, Result.andThen_ok]
  rcases hkd with h1 | h1 | ⟨h1, fs, rfl⟩
  · rw [now (.inl h1) ES 0 r h]; rfl
  · rw [now (.inr h1) ES 0 r h]; rfl
  · cases ES with
    | nil => cases h; rfl
    | cons e ES =>
      have : Instr.findNow (.struct fs) key (e :: ES) 0 = none := by
        unfold Instr.findNow
        have : Instr.sameNow (.struct fs) key e.key = none := by unfold Instr.sameNow; rfl
        rw [this]
      rw [this]
      exact asking h1 (e :: ES) 0 r h

/-! ### alike, by kind -/
/-- a key of a struct's, as its type says -/
def keyFits (E : Env) (kd : EK) (d : TypeDesc) (key : AV) : Prop := match kd with
  | .i => ∃ k i, key = .int k i
  | .s => ∃ s, key = .str s
  | .z => ∃ fs l, d = .struct fs ∧ key = .agg l ∧ rowFits E fs.toList l
  | _ => False
theorem rowEq_bits : ∀ {l m : AV} {us vs : List Value}, rowEq l m = some true → VL σ l us → VL σ m vs → ∀ n, us.length = vs.length ∧ ((vs.zip us).all fun (x, y) => Instr.sameBits n x y) = true := by
  intro l
  induction l with
  | nil =>
    intro m us vs h hl hm n
    cases m with
    | nil => rw [hl.nil_inv, hm.nil_inv]; exact ⟨rfl, rfl⟩
    | _ => cases h
  | cons x l _ ih =>
    intro m us vs h hl hm n
    cases m with
    | cons y m =>
      obtain ⟨r, hr, hb⟩ := rowEq_cons h
      obtain ⟨u, us, rfl, g1, g2⟩ := hl.cons_inv
      obtain ⟨v, vs, rfl, g3, g4⟩ := hm.cons_inv
      cases r with
      | false => simp at hb
      | true =>
        simp only [if_true] at hb
        obtain ⟨e1, e2⟩ := ih hb.symm g2 g4 n
        refine ⟨by simp [e1], ?_⟩
        simp only [List.zip_cons_cons, List.all_cons, e2, Bool.and_true]
        unfold celEq at hr
        split at hr
        · split at hr
          · rename_i hk
            subst hk
            simp only [Option.some.injEq] at hr
            have := ieq_iff.1 hr
            cases g1.int_inv; cases g3.int_inv
            cases n <;> simp [Instr.sameBits, this]
          · cases hr
        · have := eqO_inv hr σ.sym
          obtain ⟨b1, rfl, q1⟩ := g1.str_inv
          obtain ⟨b2, rfl, q2⟩ := g3.str_inv
          have hbb : (b2 == b1) = true := by rw [bbeq, q1, q2]; rw [decide_eq_true_eq] at this ⊢; exact this.symm
          cases n <;> simp [Instr.sameBits, hbb]
        · cases hr
    | _ => cases h
  | _ => intro m us vs h hl; exact hl.elim
theorem alike_of {t : TypeId} {d : TypeDesc} {kd : EK} (hd : X.E.und t = some d) (hK : KeyD X.E kd d) (hns : kd = .z → X.P.stoodInHeld t = false) {key k : AV} {r : Bool} (hfit : keyFits X.E kd d key) (h : keyE kd key k = some r) {u v : Value} (hu : V σ key u) (hv : V σ k v) : AlikeV X t d kd u v r := by
  unfold keyE at h
  cases kd with
  | i =>
    obtain ⟨k1, i, rfl⟩ := hfit
    obtain ⟨q, rfl⟩ := (hK : ∃ k, d = .int k)
    simp only [celEq] at h
    cases hu.int_inv
    cases k with
    | int k2 j =>
      simp only at h
      split at h
      · rename_i hk
        subst hk
        cases h
        cases hv.int_inv
        refine ⟨by simp [Instr.sameNow, ieq_eq], fun hr m => ?_⟩
        have := ieq_iff.1 hr
        simp [Instr.sameBits, this]
      · cases h
    | _ => cases h
  | s =>
    obtain ⟨s, rfl⟩ := hfit
    cases (hK : d = .string)
    simp only [celEq] at h
    obtain ⟨b1, rfl, q1⟩ := hu.str_inv
    cases k with
    | str s2 =>
      have h := eqO_inv h σ.sym
      obtain ⟨b2, rfl, q2⟩ := hv.str_inv
      refine ⟨by simp only [Instr.sameNow]; rw [bbeq, q1, q2, h], fun hr m => ?_⟩
      have e : (b2 == b1) = true := by rw [bbeq, q1, q2]; rw [hr, decide_eq_true_eq] at h; rw [decide_eq_true_eq]; exact h.symm
      simp [Instr.sameBits, e]
    | _ => cases h
  | z =>
    obtain ⟨fs, l, rfl, rfl, hf⟩ := hfit
    obtain ⟨fs', h1, hok⟩ := (hK : ∃ fs' : Array Go.Field, TypeDesc.struct fs = .struct fs' ∧ okFields X.E 0 fs'.toList = true)
    cases h1
    simp only at h
    obtain ⟨cs, rfl, hl⟩ := hu.agg_inv
    cases k with
    | agg m =>
      obtain ⟨cs2, rfl, hm⟩ := hv.agg_inv
      have hfo : X.P.fieldsOf t = fs := by
        unfold Program.fieldsOf
        rw [X.ok.und hd]
      refine ⟨fun D w => ?_, ⟨_, rfl⟩, fun hr m => ?_⟩
      · rw [run_equalIn_struct w (D + 1) t cs cs2 (by rw [hfo]; exact X.ok.und hd) (hns rfl), hfo]
        exact run_eqFields fs.toList 0 l _ cs.toList cs2.toList r hok hf h hl hm (fun i => by simp) (fun i => by simp) w
      · subst hr
        obtain ⟨e1, e2⟩ := rowEq_bits h hl hm m
        simp only [Array.length_toList] at e1
        simp only [Instr.sameBits, e1, beq_self_eq_true, Bool.true_and, e2]
    | _ => cases h
  | _ => exact (hK : False).elim

theorem run_checkKey {t : TypeId} {d : TypeDesc} {kd : EK} (hd : X.E.und t = some d) (hK : KeyD X.E kd d) {key : AV} (hfit : keyFits X.E kd d key) {u : Value} (hu : V σ key u) (em : Bool) (D : Nat) (w : World) : (Instr.checkKey em (D + 2) t u).run X.P w = .ok () w := by
  cases kd with
  | i =>
    obtain ⟨k1, i, rfl⟩ := hfit
    obtain ⟨q, rfl⟩ := (hK : ∃ k, d = .int k)
    cases hu.int_inv
    simp only [Instr.checkKey, Sem.run_bind, run_und hd, Result.andThen_ok]; rfl
  | s =>
    obtain ⟨s, rfl⟩ := hfit
    cases (hK : d = .string)
    obtain ⟨b1, rfl, q1⟩ := hu.str_inv
    simp only [Instr.checkKey, Sem.run_bind, run_und hd, Result.andThen_ok]; rfl
  | z =>
    obtain ⟨fs, l, rfl, rfl, hf⟩ := hfit
    obtain ⟨fs', h1, hok⟩ := (hK : ∃ fs' : Array Go.Field, TypeDesc.struct fs = .struct fs' ∧ okFields X.E 0 fs'.toList = true)
    cases h1
    obtain ⟨cs, rfl, hl⟩ := hu.agg_inv
    rw [Instr.checkKey]
    simp only [Sem.run_bind, run_und hd, Result.andThen_ok]
    rw [← Array.forIn_toList]
    have go : ∀ (fl : List Go.Field) (j : Nat) (l : AV) (us : List Value), okFields X.E j fl = true → rowFits X.E fl l → VL σ l us → (∀ i, us[i]? = cs[j + i]?) →
        ∀ w, (forIn fl PUnit.unit (fun f _ => (if f.name ≠ "_" then do
            Instr.checkKey em (D + 1) f.type (← part f.type cs f.offset)
            pure (ForInStep.yield PUnit.unit)
          else do
            pure (ForInStep.yield PUnit.unit) : Sem (ForInStep PUnit)))).run X.P w = .ok PUnit.unit w := by
      intro fl
      induction fl with
      | nil => intro j l us _ _ _ _ w; rfl
      | cons f fl ih =>
        intro j l us hf hfit hl hx w
        simp only [okFields, Bool.and_eq_true, decide_eq_true_eq] at hf
        obtain ⟨⟨⟨h1, h2⟩, h3⟩, h4⟩ := hf
        have hag : ∃ d, X.E.und f.type = some d ∧ isAggD d = false ∧ (d = .string ∨ ∃ k, d = .int k) := by
          split at h3
          · exact ⟨_, by assumption, rfl, .inr ⟨_, rfl⟩⟩
          · exact ⟨_, by assumption, rfl, .inl rfl⟩
          · cases h3
        obtain ⟨d, hd, hag, hk⟩ := hag
        cases l with
        | cons x l =>
          obtain ⟨hf1, hf2⟩ := hfit
          obtain ⟨u, us', rfl, g1, g2⟩ := hl.cons_inv
          have q1 := hx 0
          simp only [List.getElem?_cons_zero, Nat.add_zero] at q1
          have hp : (part f.type cs f.offset).run X.P w = .ok u w := by
            simp only [part, Sem.run_bind, run_isAgg hd, hag, Result.andThen_ok, Bool.false_eq_true, if_false, h2, ← q1, Sem.run_pure]
          have hck : (Instr.checkKey em (D + 1) f.type u).run X.P w = .ok () w := by
            simp only [Instr.checkKey, Sem.run_bind, run_und hd, Result.andThen_ok]
            rcases hk with rfl | ⟨k, rfl⟩ <;> rfl
          simp only [List.forIn_cons, Sem.run_bind, if_pos h1, hp, Result.andThen_ok, hck, Sem.run_pure]
          exact ih (j + 1) l us' h4 hf2 g2 (fun i => by have := hx (i + 1); simp only [List.getElem?_cons_succ] at this; rw [this]; congr 1; omega) w
        | _ => exact hfit.elim
    have := go fs.toList 0 l cs.toList hok hf hl (fun i => by simp) w
    simp at this ⊢
    rw [this]; rfl
  | _ => exact (hK : False).elim

end Go.Ev
end
