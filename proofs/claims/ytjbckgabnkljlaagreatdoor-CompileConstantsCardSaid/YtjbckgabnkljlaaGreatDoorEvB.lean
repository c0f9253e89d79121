/- Operations of the evaluator, first part. -/
import Derived.Test.YtjbckgabnkljlaaGreatDoorEvA
import Derived.Laws.World
import Derived.Laws.Cells

section
set_option linter.unusedVariables false
namespace Go.Ev

/-! ### rows -/
/-- drop n of a row -/
def AV.drop : Nat → AV → AV
  | 0, l => l
  | n + 1, .cons _ l => l.drop n
  | _ + 1, l => l
def AV.take : Nat → AV → AV
  | 0, _ => .nil
  | n + 1, .cons a l => .cons a (l.take n)
  | _ + 1, l => .nil
noncomputable def casesRow (a : AV) (c : AV → AV → Bool) (nl : Bool) : Bool :=
  AV.casesOn (motive := fun _ => Bool) a false (fun _ => false) (fun _ => false) (fun _ _ => false) (fun _ => false) false (fun _ _ => false) false (fun _ _ _ _ _ => false) false (fun _ => false) (fun _ _ _ => false) (fun _ => false) false (fun _ _ => false) false (fun _ => false) (fun _ => false) nl c
theorem casesRow_inv {a : AV} {c : AV → AV → Bool} {nl : Bool} (h : casesRow a c nl = true) : (∃ x l, a = .cons x l ∧ c x l = true) ∨ (a = .nil ∧ nl = true) := by
  cases a <;> first | (exact .inl ⟨_, _, rfl, h⟩) | (exact .inr ⟨rfl, h⟩) | (cases h)
noncomputable def rdropK (n : Nat) : AV → (AV → Bool) → Bool :=
  Nat.rec (motive := fun _ => AV → (AV → Bool) → Bool) (fun a k => k a) (fun _ ih a k => casesRow a (fun _ l => ih l k) false) n
theorem rdropK_inv {n : Nat} : ∀ {a : AV} {k : AV → Bool}, rdropK n a k = true → n ≤ a.len ∧ k (a.drop n) = true := by
  induction n with
  | zero => exact fun h => ⟨Nat.zero_le _, h⟩
  | succ n ih =>
    intro a k h
    rcases casesRow_inv h with ⟨x, l, rfl, h⟩ | ⟨_, h⟩
    · obtain ⟨h1, h2⟩ := ih h
      exact ⟨Nat.succ_le_succ h1, h2⟩
    · cases h
noncomputable def rtakeK (n : Nat) : AV → (AV → Bool) → Bool :=
  Nat.rec (motive := fun _ => AV → (AV → Bool) → Bool) (fun _ k => k .nil) (fun _ ih a k => casesRow a (fun x l => ih l fun r => k (.cons x r)) false) n
theorem rtakeK_inv {n : Nat} : ∀ {a : AV} {k : AV → Bool}, rtakeK n a k = true → n ≤ a.len ∧ k (a.take n) = true := by
  induction n with
  | zero => exact fun h => ⟨Nat.zero_le _, h⟩
  | succ n ih =>
    intro a k h
    rcases casesRow_inv h with ⟨x, l, rfl, h⟩ | ⟨_, h⟩
    · obtain ⟨h1, h2⟩ := ih h
      exact ⟨Nat.succ_le_succ h1, h2⟩
    · cases h
noncomputable def rappK (a m : AV) (k : AV → Bool) : Bool :=
  AV.rec (motive := fun _ => (AV → Bool) → Bool) (fun _ => false) (fun _ _ => false) (fun _ _ => false) (fun _ _ _ => false) (fun _ _ => false) (fun _ => false) (fun _ _ _ => false) (fun _ => false) (fun _ _ _ _ _ _ => false) (fun _ => false) (fun _ _ => false) (fun _ _ _ _ _ _ => false) (fun _ _ => false) (fun _ => false) (fun _ _ _ _ => false) (fun _ => false) (fun _ _ _ => false) (fun _ _ _ => false) (fun k => k m) (fun x _ _ ih k => ih fun r => k (.cons x r)) a k
theorem rappK_inv {m : AV} : ∀ {a : AV} {k : AV → Bool}, rappK a m k = true → k (a.app m) = true := by
  intro a
  induction a with
  | nil => exact fun h => h
  | cons x l _ ih => exact fun h => ih h
  | _ => intro k h; cases h
noncomputable def rlenK (a : AV) (n : Nat) (k : Nat → Bool) : Bool :=
  AV.rec (motive := fun _ => Nat → (Nat → Bool) → Bool) (fun _ _ => false) (fun _ _ _ => false) (fun _ _ _ => false) (fun _ _ _ _ => false) (fun _ _ _ => false) (fun _ _ => false) (fun _ _ _ _ => false) (fun _ _ => false) (fun _ _ _ _ _ _ _ => false) (fun _ _ => false) (fun _ _ _ => false) (fun _ _ _ _ _ _ _ => false) (fun _ _ _ => false) (fun _ _ => false) (fun _ _ _ _ _ => false) (fun _ _ => false) (fun _ _ _ _ => false) (fun _ _ _ _ => false) (fun n k => k n) (fun _ _ _ ih n k => ih (Nat.succ n) k) a n k
theorem rlenK_inv : ∀ {a : AV} {n : Nat} {k : Nat → Bool}, rlenK a n k = true → k (n + a.len) = true ∧ a.isRow = true := by
  intro a
  induction a with
  | nil => exact fun h => ⟨h, rfl⟩
  | cons x l _ ih =>
    intro n k h
    obtain ⟨h1, h2⟩ := ih h
    refine ⟨?_, h2⟩
    have : n.succ + l.len = n + (AV.cons x l).len := by simp only [AV.len]; omega
    rw [← this]; exact h1
  | _ => intro n k h; cases h

theorem VL.drop {σ : Sig} : ∀ {n : Nat} {a : AV} {vs : List Value}, VL σ a vs → n ≤ a.len → VL σ (a.drop n) (vs.drop n)
  | 0, a, vs, h, _ => by simpa [AV.drop] using h
  | n + 1, .cons x l, vs, h, hn => by
    obtain ⟨v, us, rfl, h1, h2⟩ := h.cons_inv
    simp only [AV.len] at hn
    simpa [AV.drop] using VL.drop (n := n) h2 (by omega)
  | n + 1, .nil, vs, h, hn => by simp [AV.len] at hn
theorem VL.take {σ : Sig} : ∀ {n : Nat} {a : AV} {vs : List Value}, VL σ a vs → n ≤ a.len → VL σ (a.take n) (vs.take n)
  | 0, a, vs, h, _ => by simpa [AV.take] using VL.nil
  | n + 1, .cons x l, vs, h, hn => by
    obtain ⟨v, us, rfl, h1, h2⟩ := h.cons_inv
    simp only [AV.len] at hn
    simpa [AV.take] using VL.cons h1 (VL.take (n := n) h2 (by omega))
  | n + 1, .nil, vs, h, hn => by simp [AV.len] at hn
theorem VL.app {σ : Sig} {m : AV} {us : List Value} (hm : VL σ m us) : ∀ {a : AV} {vs : List Value}, VL σ a vs → VL σ (a.app m) (vs ++ us) := by
  intro a
  induction a with
  | nil => intro vs h; rw [h.nil_inv]; exact hm
  | cons x l _ ih =>
    intro vs h
    obtain ⟨v, ws, rfl, h1, h2⟩ := h.cons_inv
    exact VL.cons h1 (ih h2)
  | _ => intro vs h; exact h.elim
theorem VL.row {σ : Sig} : ∀ {a : AV} {vs : List Value}, VL σ a vs → a.isRow = true := by
  intro a
  induction a with
  | nil => intro _ _; rfl
  | cons x l _ ih => intro vs h; obtain ⟨v, ws, rfl, h1, h2⟩ := h.cons_inv; exact ih h2
  | _ => intro vs h; exact h.elim

/-- a value's cells: those of a row of cells, else itself (nothing is told of what is not known) -/
noncomputable def cellsK (a : AV) (k : AV → Bool) : Bool :=
  AV.casesOn (motive := fun _ => Bool) a false (fun _ => k (.cons a .nil)) (fun _ => k (.cons a .nil)) (fun _ _ => k (.cons a .nil)) (fun _ => k (.cons a .nil)) (k (.cons a .nil)) (fun _ _ => k (.cons a .nil)) (k (.cons a .nil)) (fun _ _ _ _ _ => k (.cons a .nil)) (k (.cons a .nil)) (fun _ => k (.cons a .nil)) (fun _ _ _ => k (.cons a .nil)) (fun _ => k (.cons a .nil)) (k (.cons a .nil)) (fun _ _ => k (.cons a .nil)) (k (.cons a .nil)) (fun l => k l) (fun _ => false) false (fun _ _ => false)
theorem cellsK_inv {a : AV} {k : AV → Bool} (h : cellsK a k = true) : ∃ l, k l = true ∧ ∀ {σ : Sig} {v : Value}, V σ a v → VL σ l v.cells.toList ∧ (∀ x ∈ v.cells, v = .agg v.cells ∨ (x = v ∧ v.oneCell' = true)) := by
  have key : ∀ {a : AV}, k (.cons a .nil) = true → (∀ {σ : Sig} {v : Value}, V σ a v → v.oneCell' = true ∧ v.cells = #[v]) →
      ∃ l, k l = true ∧ ∀ {σ : Sig} {v : Value}, V σ a v → VL σ l v.cells.toList ∧ (∀ x ∈ v.cells, v = .agg v.cells ∨ (x = v ∧ v.oneCell' = true)) :=
    fun hk hv => ⟨_, hk, fun {σ v} h => by
      obtain ⟨h1, h2⟩ := hv h
      rw [h2]
      exact ⟨VL.cons h VL.nil, fun x hx => .inr ⟨by simpa using hx, h1⟩⟩⟩
  cases a with
  | top => cases h
  | sym i => exact key h (fun {σ v} hv => by obtain ⟨q, z, e⟩ := σ.sym.val_int i; have hv : v = σ.sym.val i := hv; rw [hv, e]; exact ⟨rfl, rfl⟩)
  | tup l => cases h
  | nil => cases h
  | cons x l => cases h
  | agg l => exact ⟨l, h, fun {σ v} hv => by obtain ⟨cs, rfl, hc⟩ := hv.agg_inv; exact ⟨hc, fun x _ => .inl rfl⟩⟩
  | bool b => exact key h (fun hv => by cases hv; exact ⟨rfl, rfl⟩)
  | int _ _ => exact key h (fun hv => by cases hv; exact ⟨rfl, rfl⟩)
  | str _ => exact key h (fun hv => by obtain ⟨t, rfl, _⟩ := hv.str_inv; exact ⟨rfl, rfl⟩)
  | nilp => exact key h (fun hv => by cases hv; exact ⟨rfl, rfl⟩)
  | ptr _ _ => exact key h (fun hv => by obtain ⟨B, _, rfl⟩ := hv.ptr_inv; exact ⟨rfl, rfl⟩)
  | nils => exact key h (fun hv => by cases hv; exact ⟨rfl, rfl⟩)
  | sl _ _ _ _ _ => exact key h (fun {σ v} hv => by obtain ⟨B, c, _, rfl, _⟩ := (hv : ∃ x c, _); exact ⟨rfl, rfl⟩)
  | nilm => exact key h (fun hv => by cases hv; exact ⟨rfl, rfl⟩)
  | map _ => exact key h (fun {σ v} hv => by obtain ⟨B, _, rfl⟩ := (hv : ∃ x, _); exact ⟨rfl, rfl⟩)
  | fn _ _ _ => exact key h (fun {σ v} hv => by obtain ⟨p, q, rfl, _⟩ := (hv : ∃ p q, _); exact ⟨rfl, rfl⟩)
  | yld _ => exact key h (fun {σ v} hv => by obtain ⟨B, _, rfl⟩ := (hv : ∃ x, _); exact ⟨rfl, rfl⟩)
  | nilf => exact key h (fun hv => by cases hv; exact ⟨rfl, rfl⟩)
  | ifc _ _ => exact key h (fun {σ v} hv => by obtain ⟨u, rfl, _⟩ := (hv : ∃ u, _); exact ⟨rfl, rfl⟩)
  | nili => exact key h (fun hv => by cases hv; exact ⟨rfl, rfl⟩)

/-- cells laid over a row, from a place on -/
def AV.over : AV → AV → AV
  | .cons c cs, .cons _ l => .cons c (cs.over l)
  | _, l => l
def AV.splice : Nat → AV → AV → AV
  | 0, cs, row => cs.over row
  | o + 1, cs, .cons x l => .cons x (AV.splice o cs l)
  | _, _, l => l
noncomputable def overK (cs : AV) : AV → (AV → Bool) → Bool :=
  AV.rec (motive := fun _ => AV → (AV → Bool) → Bool) (fun _ _ => false) (fun _ _ _ => false) (fun _ _ _ => false) (fun _ _ _ _ => false) (fun _ _ _ => false) (fun _ _ => false) (fun _ _ _ _ => false) (fun _ _ => false) (fun _ _ _ _ _ _ _ => false) (fun _ _ => false) (fun _ _ _ => false) (fun _ _ _ _ _ _ _ => false) (fun _ _ _ => false) (fun _ _ => false) (fun _ _ _ _ _ => false) (fun _ _ => false) (fun _ _ _ _ => false) (fun _ _ _ _ => false)
    (fun row k => k row) (fun c _ _ ih row k => casesRow row (fun _ l => ih l fun r => k (.cons c r)) false) cs
theorem overK_inv : ∀ {cs row : AV} {k : AV → Bool}, overK cs row k = true → cs.len ≤ row.len ∧ k (cs.over row) = true := by
  intro cs
  induction cs with
  | nil => exact fun {row k} h => ⟨Nat.zero_le _, (by cases row <;> exact h)⟩
  | cons c cs _ ih =>
    intro row k h
    rcases casesRow_inv h with ⟨x, l, rfl, h⟩ | ⟨_, h⟩
    · obtain ⟨h1, h2⟩ := ih h
      exact ⟨Nat.succ_le_succ h1, h2⟩
    · cases h
  | _ => intro row k h; cases h
noncomputable def spliceK (o : Nat) (cs : AV) : AV → (AV → Bool) → Bool :=
  Nat.rec (motive := fun _ => AV → (AV → Bool) → Bool) (overK cs) (fun _ ih row k => casesRow row (fun x l => ih l fun r => k (.cons x r)) false) o
theorem spliceK_inv {o : Nat} {cs : AV} : ∀ {row : AV} {k : AV → Bool}, spliceK o cs row k = true → o + cs.len ≤ row.len ∧ k (AV.splice o cs row) = true := by
  induction o with
  | zero => intro row k h; obtain ⟨h1, h2⟩ := overK_inv h; exact ⟨by omega, h2⟩
  | succ o ih =>
    intro row k h
    rcases casesRow_inv h with ⟨x, l, rfl, h⟩ | ⟨_, h⟩
    · obtain ⟨h1, h2⟩ := ih h
      exact ⟨(by show o + 1 + cs.len ≤ l.len + 1; omega), h2⟩
    · cases h
def lsplice (o : Nat) (cs vs : List Value) : List Value := vs.take o ++ (cs ++ (vs.drop o).drop cs.length)
theorem VL.over {σ : Sig} : ∀ {cs row : AV} {us vs : List Value}, VL σ cs us → VL σ row vs → cs.len ≤ row.len → VL σ (cs.over row) (us ++ vs.drop us.length) := by
  intro cs
  induction cs with
  | nil => intro row us vs hc hr _; rw [hc.nil_inv]; cases row <;> exact hr
  | cons c cs _ ih =>
    intro row us vs hc hr h
    obtain ⟨u, us, rfl, h1, h2⟩ := hc.cons_inv
    cases row with
    | cons x l =>
      obtain ⟨v, vs, rfl, h3, h4⟩ := hr.cons_inv
      exact VL.cons h1 (ih h2 h4 (Nat.le_of_succ_le_succ h))
    | _ => simp [AV.len] at h
  | _ => intro row us vs hc; exact hc.elim
theorem VL.splice {σ : Sig} {cs : AV} {us : List Value} (hc : VL σ cs us) : ∀ {o : Nat} {row : AV} {vs : List Value}, VL σ row vs → o + cs.len ≤ row.len → VL σ (AV.splice o cs row) (lsplice o us vs)
  | 0, row, vs, hr, h => by
    have e : lsplice 0 us vs = us ++ vs.drop us.length := by simp [lsplice]
    rw [e]
    exact VL.over hc hr (by omega)
  | o + 1, row, vs, hr, h => by
    cases row with
    | cons x l =>
      obtain ⟨v, vs, rfl, h3, h4⟩ := hr.cons_inv
      exact VL.cons h3 (VL.splice hc (o := o) h4 (by simp only [AV.len] at h; omega))
    | _ => simp only [AV.len] at h; omega

end Go.Ev
end

section
set_option linter.unusedVariables false
set_option linter.unusedSimpArgs false
namespace Go.Ev

variable {X : Cx} {σ : Sig} {n : Nat} {fr : Fr} {a : Act} {w : World} {L : Tmp → Prop}

/-- what an operation is handed on to: its value, the memory behind it -/
abbrev Kt := AV → H → Bool

theorem ble_true {a b : Nat} : Nat.ble a b = true ↔ a ≤ b := ⟨Nat.le_of_ble_eq_true, Nat.ble_eq_true_of_le⟩
theorem beq_true {a b : Nat} : Nat.beq a b = true ↔ a = b := by rw [Nat.beq_eq]

theorem pureV {o : Oper} {v : AV} {s : Act → Sem Value} (he : ∀ a : Act, execOp a.eval o = (do pure (Next.value (← s a))))
    (h : ∀ (σ : Sig) (a : Act) (w : World), Fit X σ n fr a (Lop o) → ∃ x, (s a).run X.P w = .ok x w ∧ V σ v x) : Pure X n fr o v := by
  intro σ a w hf
  obtain ⟨x, hx, hv⟩ := h σ a w hf
  refine ⟨x, ?_, hv⟩
  rw [he]
  exact run_exec_value hx

theorem run_info {t : TypeId} {i : TypeInfo} (h : X.E.ty t = some i) (w : World) : (typeInfo t).run X.P w = .ok i w := by
  simp [typeInfo, X.ok.ty _ _ h]
theorem run_size {t : TypeId} {i : TypeInfo} (h : X.E.ty t = some i) (w : World) : (sizeOf t).run X.P w = .ok i.size w := by
  simp [sizeOf, run_info h]
theorem run_und {t : TypeId} {d : TypeDesc} (h : X.E.und t = some d) (w : World) : (underlying t).run X.P w = .ok d w :=
  run_underlying (X.ok.und h) w
theorem run_zero {t : TypeId} {i : TypeInfo} {z : Value} (h : X.E.ty t = some i) (hz : i.zero = some z) (w : World) : (zeroValue t).run X.P w = .ok z w := by
  simp [zeroValue, run_info h, hz]
theorem run_isAgg {t : TypeId} {d : TypeDesc} (h : X.E.und t = some d) (w : World) : (isAgg t).run X.P w = .ok (isAggD d) w := by
  simp only [isAgg, Sem.run_bind, run_und h, Result.andThen]
  cases d <;> rfl
theorem addr_add (b o n : Nat) : (⟨b, o, none⟩ : Addr).add n = ⟨b, o + n, none⟩ := by
  unfold Addr.add; split <;> simp_all

/-! ### moves -/
noncomputable def opMv (x : MO) (fr : Fr) (h : H) (k : Kt) : Bool := x.getK fr fun a => k a h
theorem opMv_inv {o : Oper} {x : Operand} {m : MO} {h : H} {k : Kt} (ho : ∀ ρ, execOp ρ o = pure (Next.value (ρ x))) (hx : x ∈ o.op.operands) (hm : mo X.ng n x = some m)
    (hk : opMv m fr h k = true) : ∃ v, k v h = true ∧ Pure X n fr o v := by
  unfold opMv at hk
  rw [MO.getK_eq] at hk
  refine ⟨_, hk, fun σ a w hf => ⟨a.eval x, ?_, mo_V hm hf (lop hx)⟩⟩
  rw [ho]; rfl

noncomputable def onBool (a : AV) (t e : Bool) : Bool := match a with | .bool b => sel b t e | _ => false
theorem onBool_inv {a : AV} {t e : Bool} (h : onBool a t e = true) : (a = .bool true ∧ t = true) ∨ (a = .bool false ∧ e = true) := by
  unfold onBool at h
  split at h
  · rename_i b
    cases b
    · exact .inr ⟨rfl, h⟩
    · exact .inl ⟨rfl, h⟩
  · cases h

noncomputable def opPick (c x y : MO) (fr : Fr) (h : H) (k : Kt) : Bool := c.getK fr fun b => onBool b (x.getK fr fun a => k a h) (y.getK fr fun a => k a h)
theorem opPick_inv {o : Oper} {c x y : Operand} {mc mx my : MO} {h : H} {k : Kt} (ho : o.op = .pick c x y) (hc : mo X.ng n c = some mc) (hx : mo X.ng n x = some mx) (hy : mo X.ng n y = some my)
    (hk : opPick mc mx my fr h k = true) : ∃ v, k v h = true ∧ Pure X n fr o v := by
  unfold opPick at hk
  simp only [MO.getK_eq] at hk
  rcases onBool_inv hk with ⟨h1, hk⟩ | ⟨h1, hk⟩
  · refine ⟨_, hk, fun σ a w hf => ⟨a.eval x, ?_, mo_V hx hf (lop (by rw [ho]; simp [Op.operands]))⟩⟩
    have hcv := mo_V hc hf (lop (by rw [ho]; simp [Op.operands]))
    rw [h1] at hcv
    simp only [execOp, ho, hcv.bool_inv]
    simp [asBool]
  · refine ⟨_, hk, fun σ a w hf => ⟨a.eval y, ?_, mo_V hy hf (lop (by rw [ho]; simp [Op.operands]))⟩⟩
    have hcv := mo_V hc hf (lop (by rw [ho]; simp [Op.operands]))
    rw [h1] at hcv
    simp only [execOp, ho, hcv.bool_inv]
    simp [asBool]

/-! ### build -/
theorem zipFold (off : Nat) : ∀ (vs : List Value) (k : Nat) (cells : Array Value) (m : Nat),
    ((vs.zipIdx k).foldl (fun (cs : Array Value) (p : Value × Nat) => cs.setIfInBounds (off + p.2) p.1) cells)[m]? =
      if off + k ≤ m ∧ m < off + k + vs.length ∧ m < cells.size then vs[m - (off + k)]? else cells[m]?
  | [], k, cells, m => by
    rw [if_neg (by simp; omega)]; rfl
  | v :: vs, k, cells, m => by
    rw [List.zipIdx_cons, List.foldl_cons, zipFold off vs (k + 1)]
    simp only [Array.size_setIfInBounds, List.length_cons]
    by_cases h1 : off + (k + 1) ≤ m ∧ m < off + (k + 1) + vs.length ∧ m < cells.size
    · rw [if_pos h1, if_pos (by omega)]
      have : m - (off + k) = (m - (off + (k + 1))) + 1 := by omega
      rw [this]; simp
    · rw [if_neg h1, Array.getElem?_setIfInBounds]
      by_cases h2 : off + k = m
      · subst h2
        by_cases h3 : off + k < cells.size
        · rw [if_pos rfl, if_pos h3, if_pos (by omega)]; simp
        · rw [if_pos rfl, if_neg h3, if_neg (by omega)]; simp [Nat.le_of_not_lt h3]
      · rw [if_neg h2]
        split
        · exfalso; omega
        · rfl
theorem lsplice_get {o : Nat} {cs vs : List Value} (h : o + cs.length ≤ vs.length) (m : Nat) :
    (lsplice o cs vs)[m]? = if o ≤ m ∧ m < o + cs.length then cs[m - o]? else vs[m]? := by
  unfold lsplice
  by_cases h1 : m < o
  · rw [List.getElem?_append_left (by simp; omega), if_neg (by omega), List.getElem?_take, if_pos h1]
  · rw [List.getElem?_append_right (by simp; omega)]
    have e : (List.take o vs).length = o := by simp; omega
    rw [e]
    by_cases h2 : m < o + cs.length
    · rw [if_pos (by omega), List.getElem?_append_left (by omega)]
    · rw [if_neg (by omega), List.getElem?_append_right (by omega), List.drop_drop, List.getElem?_drop]
      congr 1; omega
theorem fill_one (off : Nat) (vs cells : Array Value) (h : off + vs.size ≤ cells.size) :
    (vs.zipIdx.foldl (fun cs (c, j) => cs.setIfInBounds (off + j) c) cells).toList = lsplice off vs.toList cells.toList := by
  apply List.ext_getElem?
  intro m
  rw [lsplice_get (by simpa using h)]
  have := zipFold off vs.toList 0 cells m
  rw [← Array.foldl_toList, Array.toList_zipIdx, Array.getElem?_toList, this]
  simp only [Nat.add_zero, Array.length_toList, Array.getElem?_toList]
  by_cases h1 : off ≤ m ∧ m < off + vs.size
  · rw [if_pos h1, if_pos (by omega)]
  · rw [if_neg h1, if_neg (by omega)]

noncomputable def fillK (fr : Fr) (ps : List (Nat × Nat × MO)) (row : AV) (k : AV → Bool) : Bool :=
  List.rec (motive := fun _ => AV → Bool) k (fun p _ ih row => p.2.2.getK fr fun a => cellsK a fun cs => rlenK cs 0 fun l => chk (Nat.beq l p.2.1) (spliceK p.1 cs row ih)) ps row
theorem fillK_inv {off : Nat → Option (Nat × Nat)} {k : AV → Bool} : ∀ {ps : List (Nat × Operand)} {ms : List (Nat × Nat × MO)} {row : AV}, cparts X.ng n off ps = some ms → fillK fr ms row k = true →
    ∃ row', k row' = true ∧ ∀ (σ : Sig) (a : Act), Fit X σ n fr a L → (∀ p ∈ ps, ∀ t, p.2 = .tmp t → L t) → ∀ (cells : Array Value), VL σ row cells.toList →
      ∃ cells', Instr.fill off cells (ps.map fun p => (p.1, a.eval p.2)) = some cells' ∧ VL σ row' cells'.toList
  | [], ms, row, hc, hk => by
    cases hc
    exact ⟨row, hk, fun σ a _ _ cells h => ⟨cells, rfl, h⟩⟩
  | (i, x) :: ps, ms, row, hc, hk => by
    simp only [cparts] at hc
    split at hc
    · rename_i o s m l h1 h2 h3
      cases hc
      change (m.getK fr fun a => cellsK a fun cs => rlenK cs 0 fun l' => chk (Nat.beq l' s) (spliceK o cs row (fillK fr l · k))) = true at hk
      rw [MO.getK_eq] at hk
      obtain ⟨cs, hk, hcs⟩ := cellsK_inv hk
      obtain ⟨hk, _⟩ := rlenK_inv hk
      obtain ⟨hs, hk⟩ := chk_eq hk
      rw [Nat.zero_add, beq_true] at hs
      obtain ⟨hle, hk⟩ := spliceK_inv hk
      obtain ⟨row', hk', hr⟩ := fillK_inv (ps := ps) h3 hk
      refine ⟨row', hk', fun σ a hf hp cells hcells => ?_⟩
      have hv := mo_V h2 hf (hp (i, x) List.mem_cons_self)
      obtain ⟨hcv, _⟩ := hcs hv
      have hl1 : (a.eval x).cells.size = cs.len := by have := hcv.len; simpa using this
      have hl2 : cells.size = row.len := by have := hcells.len; simpa using this
      have hz := fill_one o (a.eval x).cells cells (by omega)
      obtain ⟨cells', h4, h5⟩ := hr σ a hf (fun p hp' => hp p (List.mem_cons_of_mem _ hp')) _ (by rw [hz]; exact VL.splice hcv hcells hle)
      refine ⟨cells', ?_, h5⟩
      simp only [List.map_cons, Instr.fill, h1]
      rw [if_neg]
      · exact h4
      · simp only [hl1, hs, ne_eq, not_true_eq_false, decide_false, Bool.false_or, decide_eq_true_eq]
        simp; omega
    · cases hc

noncomputable def opBuild (zs : AV) (ps : List (Nat × Nat × MO)) (fr : Fr) (h : H) (k : Kt) : Bool := fillK fr ps zs fun r => k (.agg r) h

theorem run_places (fs : List Go.Field) (w : World) (h : ∀ f ∈ fs, (X.E.ty f.type).isSome = true) :
    ∃ l : List (Nat × Nat), (fs.mapM (fun (f : Go.Field) => (do pure (f.offset, ← sizeOf f.type) : Sem (Nat × Nat)))).run X.P w = .ok l w ∧
      ∀ i : Nat, l[i]? = ((fs[i]?).bind fun (f : Go.Field) => (X.E.ty f.type).map fun j => (f.offset, j.size)) := by
  induction fs with
  | nil => exact ⟨[], rfl, fun i => rfl⟩
  | cons f fs ih =>
    obtain ⟨l, h1, h2⟩ := ih fun f hf => h f (List.mem_cons_of_mem _ hf)
    obtain ⟨i, hi⟩ := Option.isSome_iff_exists.1 (h f List.mem_cons_self)
    refine ⟨(f.offset, i.size) :: l, ?_, fun j => ?_⟩
    · simp only [List.mapM_cons, Sem.run_bind, run_size hi, h1, Result.andThen_ok, Sem.run_pure]
    · cases j with
      | zero => simp [hi]
      | succ j => simpa using h2 j

theorem opBuild_struct {o : Oper} {t : TypeId} {ps : Array (Nat × Operand)} {i : TypeInfo} {cs : Array Value} {z : AV} {fs : Array Go.Field} {ms : List (Nat × Nat × MO)} {h : H} {k : Kt}
    (ho : o.op = .build t ps) (hi : X.E.ty t = some i) (hz : i.zero = some (.agg cs)) (hr : zrow i = some z) (hu : X.E.und t = some (.struct fs)) (hall : fs.all (fun f => (X.E.ty f.type).isSome) = true)
    (hc : cparts X.ng n (fun i => do let f ← fs[i]?; pure (f.offset, (← X.E.ty f.type).size)) ps.toList = some ms) (hk : opBuild z ms fr h k = true) : ∃ v, k v h = true ∧ Pure X n fr o v := by
  obtain ⟨row, hk, hf⟩ := fillK_inv (L := Lop o) hc hk
  refine ⟨_, hk, pureV (s := fun a => Instr.build t (ps.map fun (i, x) => (i, a.eval x))) (fun a => by simp only [execOp, ho]) fun σ a w hfit => ?_⟩
  have hz0 : VL σ z (Value.agg cs).cells.toList := by
    simp only [zrow, hz, Option.bind_some] at hr
    exact cvL_VL hr
  obtain ⟨l, hl, hp⟩ := run_places (X := X) fs.toList w (fun f hf => by
    have := Array.all_eq_true_iff_forall_mem.1 hall f (by simpa using hf)
    exact this)
  obtain ⟨cells, h1, h2⟩ := hf σ a hfit (fun p hp t ht => by
    refine lop ?_ t ht
    rw [ho]; simp only [Op.operands, List.mem_toArray, List.mem_map]
    exact ⟨p, hp, rfl⟩) (Value.agg cs).cells hz0
  refine ⟨.agg cells, ?_, cells, rfl, h2⟩
  have hplaces : (fs.mapM (fun (f : Go.Field) => (do pure (f.offset, ← sizeOf f.type) : Sem (Nat × Nat)))).run X.P w = .ok l.toArray w := by
    rw [Array.mapM_eq_mapM_toList]
    simp only [Sem.run_map, hl, Result.andThen_ok]
  have hfun : (fun (i : Nat) => (do let f ← fs[i]?; pure (f.offset, (← X.E.ty f.type).size) : Option (Nat × Nat))) = fun i => l.toArray[i]? := by
    funext i
    have e : l.toArray[i]? = l[i]? := by simp
    rw [e, hp i]
    simp only [Array.getElem?_toList]
    cases fs[i]? with
    | none => rfl
    | some f =>
      simp only [Option.bind_some, Option.bind_eq_bind]
      cases X.E.ty f.type <;> rfl
  rw [hfun] at h1
  have he : (ps.map fun (i, x) => (i, a.eval x)).toList = ps.toList.map fun p => (p.1, a.eval p.2) := by simp
  simp only [Instr.build, Sem.run_bind, run_zero hi hz, run_und hu, Result.andThen_ok, hplaces, he, h1, Sem.run_pure]

theorem opBuild_array {o : Oper} {t : TypeId} {ps : Array (Nat × Operand)} {i j : TypeInfo} {cs : Array Value} {z : AV} {len : Nat} {e : TypeId} {ms : List (Nat × Nat × MO)} {h : H} {k : Kt}
    (ho : o.op = .build t ps) (hi : X.E.ty t = some i) (hz : i.zero = some (.agg cs)) (hr : zrow i = some z) (hu : X.E.und t = some (.array len e)) (hj : X.E.ty e = some j)
    (hc : cparts X.ng n (fun i => some (i * j.size, j.size)) ps.toList = some ms) (hk : opBuild z ms fr h k = true) : ∃ v, k v h = true ∧ Pure X n fr o v := by
  obtain ⟨row, hk, hf⟩ := fillK_inv (L := Lop o) hc hk
  refine ⟨_, hk, pureV (s := fun a => Instr.build t (ps.map fun (i, x) => (i, a.eval x))) (fun a => by simp only [execOp, ho]) fun σ a w hfit => ?_⟩
  have hz0 : VL σ z (Value.agg cs).cells.toList := by
    simp only [zrow, hz, Option.bind_some] at hr
    exact cvL_VL hr
  obtain ⟨cells, h1, h2⟩ := hf σ a hfit (fun p hp t ht => by
    refine lop ?_ t ht
    rw [ho]; simp only [Op.operands, List.mem_toArray, List.mem_map]
    exact ⟨p, hp, rfl⟩) (Value.agg cs).cells hz0
  refine ⟨.agg cells, ?_, cells, rfl, h2⟩
  have he : (ps.map fun (i, x) => (i, a.eval x)).toList = ps.toList.map fun p => (p.1, a.eval p.2) := by simp
  simp only [Instr.build, Sem.run_bind, run_zero hi hz, run_und hu, Result.andThen_ok, run_size hj, he, h1, Sem.run_pure]

/-! ### small ones -/
noncomputable def opNilc (x : MO) (fr : Fr) (h : H) (k : Kt) : Bool := x.getK fr fun a => match a with
  | .ptr b o => k (.ptr b o) h
  | .fn f p q => k (.fn f p q) h
  | .yld b => k (.yld b) h
  | .ifc t v => k (.ifc t v) h
  | _ => false
theorem opNilc_inv {o : Oper} {x : Operand} {m : MO} {h : H} {k : Kt} (ho : o.op = .nilCheck x) (hm : mo X.ng n x = some m) (hk : opNilc m fr h k = true) : ∃ v, k v h = true ∧ Pure X n fr o v := by
  unfold opNilc at hk
  rw [MO.getK_eq] at hk
  have go : ∀ v : AV, m.val fr = v → k v h = true → (∀ σ u, V σ v u → ∀ w, (match u with
    | .pointer none | .nilIface | .nilFunc => runtimePanic .nilDeref
    | .func (.method name) first captured =>
      match (first[0]? : Option Value) with
      | some .nilIface => runtimePanic .nilDeref
      | some (.iface t w) => do
        if (← nilAhead ((← program).types.size + Made.depth) t w name) != some false then
          unsupported (.noEntry "op/nilCheck.the method's receiver behind this interface value is a nil pointer, or cannot be seen to be none, and the arguments act or may panic (ledger 612)")
        pure (.value (.func (.method name) first captured))
      | _ => pure (.value (.func (.method name) first captured))
    | x => pure (.value x) : Sem Next).run X.P w = .ok (.value u) w) → ∃ v, k v h = true ∧ Pure X n fr o v := by
    intro v hv hk hr
    refine ⟨v, hk, fun σ a w hf => ⟨a.eval x, ?_, ?_⟩⟩
    · have := mo_V hm hf (lop (by rw [ho]; simp [Op.operands]))
      rw [hv] at this
      simp only [execOp, ho]
      exact hr σ _ this w
    · have := mo_V hm hf (lop (by rw [ho]; simp [Op.operands]))
      rwa [hv] at this
  cases hv : m.val fr <;> rw [hv] at hk <;> simp only at hk <;> first | cases hk | refine go _ hv hk ?_
  · rintro σ u ⟨B, _, rfl⟩ w; rfl
  · rintro σ u ⟨p, q, rfl, _⟩ w; rfl
  · rintro σ u ⟨B, _, rfl⟩ w; rfl
  · rintro σ u ⟨v, rfl, _⟩ w; rfl

noncomputable def opBin (fc : List Fact) (b : BinOp) (x y : MO) (fr : Fr) (h : H) (k : Kt) : Bool := x.getK fr fun p => y.getK fr fun q => binK fc b p q fun v => k v h
theorem opBin_inv {o : Oper} {b : BinOp} {t t' : TypeId} {x y : Operand} {mx my : MO} {h : H} {k : Kt} (ho : o.op = .binOp b t x y t') (hx : mo X.ng n x = some mx) (hy : mo X.ng n y = some my)
    (hk : opBin X.fc b mx my fr h k = true) : ∃ v, k v h = true ∧ Pure X n fr o v := by
  unfold opBin at hk
  simp only [MO.getK_eq] at hk
  obtain ⟨v, hk, hr⟩ := binK_inv hk
  refine ⟨v, hk, pureV (s := fun a => (do eqGuard b t x y (a.eval x) (a.eval y); Go.binOp b t (a.eval x) (a.eval y))) (fun a => by simp only [execOp, ho]) fun σ a w hf => ?_⟩
  exact hr σ t x y _ _ w hf.sane (mo_V hx hf (lop (by rw [ho]; simp [Op.operands]))) (mo_V hy hf (lop (by rw [ho]; simp [Op.operands])))

noncomputable def opNot (x : MO) (fr : Fr) (h : H) (k : Kt) : Bool := x.getK fr fun a => onBool a (k (.bool false) h) (k (.bool true) h)
theorem opNot_inv {o : Oper} {t : TypeId} {x : Operand} {m : MO} {h : H} {k : Kt} (ho : o.op = .unOp .not t x) (hm : mo X.ng n x = some m) (hk : opNot m fr h k = true) : ∃ v, k v h = true ∧ Pure X n fr o v := by
  unfold opNot at hk
  rw [MO.getK_eq] at hk
  rcases onBool_inv hk with ⟨h1, hk⟩ | ⟨h1, hk⟩
  all_goals
    refine ⟨_, hk, pureV (s := fun a => Op.unary .not (a.eval x)) (fun a => by simp only [execOp, ho]) fun σ a w hf => ⟨_, ?_, rfl⟩⟩
    have := mo_V hm hf (lop (by rw [ho]; simp [Op.operands]))
    rw [h1] at this
    simp [this.bool_inv, Op.unary]
noncomputable def opNeg (fc : List Fact) (x : MO) (fr : Fr) (h : H) (k : Kt) : Bool := x.getK fr fun a => match a with | .int q i => wK q (0 - i) fun r => k (.int q r) h | .sym i => fcK .neg (.s i) (.s i) (fun v => k v h) fc | _ => false
theorem opNeg_inv {o : Oper} {t : TypeId} {x : Operand} {m : MO} {h : H} {k : Kt} (ho : o.op = .unOp .neg t x) (hm : mo X.ng n x = some m) (hk : opNeg X.fc m fr h k = true) : ∃ v, k v h = true ∧ Pure X n fr o v := by
  unfold opNeg at hk
  rw [MO.getK_eq] at hk
  split at hk
  · rename_i q i h1
    rw [wK_eq] at hk
    refine ⟨_, hk, pureV (s := fun a => Op.unary .neg (a.eval x)) (fun a => by simp only [execOp, ho]) fun σ a w hf => ⟨_, ?_, rfl⟩⟩
    have := mo_V hm hf (lop (by rw [ho]; simp [Op.operands]))
    rw [h1] at this
    simp [this.int_inv, Op.unary, Op.intArith]
  · rename_i i h1
    obtain ⟨e, hK, he, hf⟩ := fact_at hk
    refine ⟨_, hK, pureV (s := fun a => Op.unary .neg (a.eval x)) (fun a => by simp only [execOp, ho]) fun σ a w hfit => ?_⟩
    have := mo_V hm hfit (lop (by rw [ho]; simp [Op.operands]))
    rw [h1] at this
    obtain ⟨q, z, q', z', e1, _, h2, h3, h4⟩ := hf hfit.sane this this
    have h4 := h4 q z q' z' h2 h3
    rw [he] at h4
    exact ⟨_, by rw [e1]; simp [Op.unary, Op.intArith], h4⟩
  · cases hk
noncomputable def opCvi (fc : List Fact) (q : IntKind) (x : MO) (fr : Fr) (h : H) (k : Kt) : Bool := x.getK fr fun a => match a with | .int _ i => wK q i fun r => k (.int q r) h | .sym i => fcK (.cvi q) (.s i) (.s i) (fun v => k v h) fc | _ => false
theorem opCvi_inv {o : Oper} {s d : TypeId} {ks kd : IntKind} {x : Operand} {m : MO} {h : H} {k : Kt} (ho : o.op = .convert s d x) (hs : X.E.und s = some (.int ks)) (hd : X.E.und d = some (.int kd)) (hm : mo X.ng n x = some m)
    (hk : opCvi X.fc kd m fr h k = true) : ∃ v, k v h = true ∧ Pure X n fr o v := by
  unfold opCvi at hk
  rw [MO.getK_eq] at hk
  split at hk
  · rename_i q i h1
    rw [wK_eq] at hk
    refine ⟨_, hk, pureV (s := fun a => convert s d (a.eval x)) (fun a => by simp only [execOp, ho]) fun σ a w hf => ⟨_, ?_, rfl⟩⟩
    have := mo_V hm hf (lop (by rw [ho]; simp [Op.operands]))
    rw [h1] at this
    simp [this.int_inv, convert, run_und hs, run_und hd, Conv.intToInt]
  · rename_i i h1
    obtain ⟨e, hK, he, hf⟩ := fact_at hk
    refine ⟨_, hK, pureV (s := fun a => convert s d (a.eval x)) (fun a => by simp only [execOp, ho]) fun σ a w hfit => ?_⟩
    have := mo_V hm hfit (lop (by rw [ho]; simp [Op.operands]))
    rw [h1] at this
    obtain ⟨q, z, q', z', e1, _, h2, h3, h4⟩ := hf hfit.sane this this
    have h4 := h4 q z q' z' h2 h3
    rw [he] at h4
    exact ⟨_, by rw [e1]; simp [convert, run_und hs, run_und hd, Conv.intToInt], h4⟩
  · cases hk
noncomputable def opCvs (x : MO) (fr : Fr) (h : H) (k : Kt) : Bool := x.getK fr fun a => match a with | .str s => k (.str s) h | _ => false
theorem opCvs_inv {o : Oper} {s d : TypeId} {x : Operand} {m : MO} {h : H} {k : Kt} (ho : o.op = .convert s d x) (hs : X.E.und s = some .string) (hd : X.E.und d = some .string) (hm : mo X.ng n x = some m)
    (hk : opCvs m fr h k = true) : ∃ v, k v h = true ∧ Pure X n fr o v := by
  unfold opCvs at hk
  rw [MO.getK_eq] at hk
  split at hk
  · rename_i q h1
    refine ⟨_, hk, pureV (s := fun a => convert s d (a.eval x)) (fun a => by simp only [execOp, ho]) fun σ a w hf => ?_⟩
    have := mo_V hm hf (lop (by rw [ho]; simp [Op.operands]))
    rw [h1] at this
    obtain ⟨t, ht, hn⟩ := this.str_inv
    exact ⟨.string t, by simp [ht, convert, run_und hs, run_und hd], t, rfl, hn⟩
  · cases hk
noncomputable def opMkif (t : Nat) (x : MO) (fr : Fr) (h : H) (k : Kt) : Bool := x.getK fr fun a => k (.ifc t a) h
theorem opMkif_inv {o : Oper} {t : TypeId} {d : TypeDesc} {x : Operand} {m : MO} {h : H} {k : Kt} (ho : o.op = .makeInterface t x) (hd : X.E.und t = some d) (hn : ∀ l, d ≠ .interface l) (hm : mo X.ng n x = some m)
    (hk : opMkif t m fr h k = true) : ∃ v, k v h = true ∧ Pure X n fr o v := by
  unfold opMkif at hk
  rw [MO.getK_eq] at hk
  refine ⟨_, hk, pureV (s := fun a => Instr.makeInterface t (a.eval x)) (fun a => by simp only [execOp, ho]) fun σ a w hf => ⟨.iface t (a.eval x), ?_, _, rfl, mo_V hm hf (lop (by rw [ho]; simp [Op.operands]))⟩⟩
  simp only [Instr.makeInterface, Sem.run_bind, run_und hd, Result.andThen_ok]
  cases d <;> first | rfl | exact absurd rfl (hn _)
noncomputable def opMkfn (f : Nat) (p q : List MO) (fr : Fr) (h : H) (k : Kt) : Bool := rowK fr p fun a => rowK fr q fun b => k (.fn f a b) h
theorem opMkfn_inv {o : Oper} {f : FuncId} {p q : Array Operand} {mp mq : List MO} {h : H} {k : Kt} (ho : o.op = .makeFunc (.func f) p q) (hp : mos X.ng n p.toList = some mp) (hq : mos X.ng n q.toList = some mq)
    (hk : opMkfn f mp mq fr h k = true) : ∃ v, k v h = true ∧ Pure X n fr o v := by
  unfold opMkfn at hk
  simp only [rowK_eq] at hk
  refine ⟨_, hk, pureV (s := fun a => Instr.makeFunc (.func f) (p.map a.eval) (q.map a.eval)) (fun a => by simp only [execOp, ho]) fun σ a w hf => ⟨_, rfl, _, _, rfl, ?_, ?_⟩⟩
  · exact mos_VL' hp hf fun x hx => lop (by rw [ho]; simp [Op.operands, hx])
  · exact mos_VL' hq hf fun x hx => lop (by rw [ho]; simp [Op.operands, hx])
noncomputable def opExt (x : MO) (i : Nat) (fr : Fr) (h : H) (k : Kt) : Bool := x.getK fr fun a => match a with | .tup l => AV.nthK i l fun v => k v h | _ => false
theorem opExt_inv {o : Oper} {i : Nat} {x : Operand} {m : MO} {h : H} {k : Kt} (ho : o.op = .extract x i) (hm : mo X.ng n x = some m) (hk : opExt m i fr h k = true) : ∃ v, k v h = true ∧ Pure X n fr o v := by
  unfold opExt at hk
  rw [MO.getK_eq] at hk
  split at hk
  · rename_i l h1
    obtain ⟨v, hv, hk⟩ := AV.nthK_inv hk
    refine ⟨_, hk, pureV (s := fun a => Instr.extract (a.eval x) i) (fun a => by simp only [execOp, ho]) fun σ a w hf => ?_⟩
    have := mo_V hm hf (lop (by rw [ho]; simp [Op.operands]))
    rw [h1] at this
    obtain ⟨cs, hc, hl⟩ := this.tup_inv
    obtain ⟨u, hu, hV⟩ := hl.nth hv
    refine ⟨u, ?_, hV⟩
    simp only [Array.getElem?_toList] at hu
    simp [hc, Instr.extract, hu]
  · cases hk

end Go.Ev
end

section
set_option linter.unusedVariables false
set_option linter.unusedSimpArgs false
namespace Go.Ev

variable {X : Cx} {σ : Sig} {n : Nat} {fr : Fr} {a : Act} {w : World} {L : Tmp → Prop}

/-! ### texts -/
noncomputable def sdropK (n : Nat) (l : List Nat) (k : List Nat → Bool) : Bool :=
  Nat.rec (motive := fun _ => List Nat → Bool) (fun l => k l) (fun _ ih l => List.rec (motive := fun _ => Bool) false (fun _ l _ => ih l) l) n l
theorem sdropK_inv {k : List Nat → Bool} : ∀ {n : Nat} {l : List Nat}, sdropK n l k = true → n ≤ l.length ∧ k (l.drop n) = true := by
  intro n
  induction n with
  | zero => exact fun h => ⟨Nat.zero_le _, h⟩
  | succ n ih =>
    intro l h
    cases l with
    | nil => cases h
    | cons x l => obtain ⟨h1, h2⟩ := ih (l := l) h; exact ⟨Nat.succ_le_succ h1, h2⟩
noncomputable def stakeK (n : Nat) (l : List Nat) (k : List Nat → Bool) : Bool :=
  Nat.rec (motive := fun _ => List Nat → (List Nat → Bool) → Bool) (fun _ k => k []) (fun _ ih l k => List.rec (motive := fun _ => Bool) false (fun x l _ => ih l fun r => k (x :: r)) l) n l k
theorem stakeK_inv : ∀ {n : Nat} {l : List Nat} {k : List Nat → Bool}, stakeK n l k = true → n ≤ l.length ∧ k (l.take n) = true := by
  intro n
  induction n with
  | zero => exact fun h => ⟨Nat.zero_le _, h⟩
  | succ n ih =>
    intro l k h
    cases l with
    | nil => cases h
    | cons x l => obtain ⟨h1, h2⟩ := ih (l := l) h; exact ⟨Nat.succ_le_succ h1, h2⟩
noncomputable def snthK (n : Nat) (l : List Nat) (k : Nat → Bool) : Bool :=
  Nat.rec (motive := fun _ => List Nat → Bool) (fun l => List.rec (motive := fun _ => Bool) false (fun x _ _ => k x) l) (fun _ ih l => List.rec (motive := fun _ => Bool) false (fun _ l _ => ih l) l) n l
theorem snthK_inv {k : Nat → Bool} : ∀ {n : Nat} {l : List Nat}, snthK n l k = true → ∃ x, l[n]? = some x ∧ k x = true := by
  intro n
  induction n with
  | zero =>
    intro l h
    cases l with
    | nil => cases h
    | cons x l => exact ⟨x, rfl, h⟩
  | succ n ih =>
    intro l h
    cases l with
    | nil => cases h
    | cons x l => obtain ⟨y, h1, h2⟩ := ih (l := l) h; exact ⟨y, by simpa using h1, h2⟩
theorem nums_extract (s : ByteArray) (l h : Nat) : nums (s.extract l h) = ((nums s).drop l).take (h - l) := by
  simp [nums, ByteArray.data_extract, Array.toList_extract, List.map_drop, List.map_take]

/-! ### bounds -/
/-- a bound: none, or a number not below zero -/
noncomputable def bndK (m : Option MO) (fr : Fr) (k : Option Nat → Bool) : Bool :=
  Option.rec (motive := fun _ => Bool) (k none) (fun x => x.getK fr fun a => match a with | .int _ (.ofNat i) => k (some i) | _ => false) m
def BO : Option Nat → Option Value → Prop
  | none, none => True
  | some m, some v => ∃ q, v = .int q (m : Int)
  | _, _ => False
theorem bndK_inv {m : Option MO} {x : Option Operand} {k : Option Nat → Bool} (hm : mopt X.ng n x = some m) (hk : bndK m fr k = true) :
    ∃ b, k b = true ∧ ∀ (σ : Sig) (a : Act), Fit X σ n fr a L → (∀ y, x = some y → ∀ t, y = .tmp t → L t) → BO b (x.map a.eval) := by
  cases x with
  | none => cases hm; exact ⟨none, hk, fun _ _ _ _ => trivial⟩
  | some x =>
    simp only [mopt, Option.map_eq_some_iff] at hm
    obtain ⟨y, hy, rfl⟩ := hm
    change (y.getK fr fun a => match a with | .int _ (.ofNat i) => k (some i) | _ => false) = true at hk
    rw [MO.getK_eq] at hk
    split at hk
    · rename_i q i h1
      refine ⟨some i, hk, fun σ a hf hl => ?_⟩
      have := mo_V hy hf (hl x rfl)
      rw [h1] at this
      exact ⟨q, this.int_inv⟩
    · cases hk
theorem BO.none_iff {b : Option Nat} {v : Option Value} (h : BO b v) : b = none ↔ v = none := by
  cases b <;> cases v <;> simp_all [BO]
theorem run_bounds {isS : Bool} {len cap : Nat} {lo hi mx : Option Nat} {vlo vhi vmx : Option Value} (hlo : BO lo vlo) (hhi : BO hi vhi) (hmx : BO mx vmx)
    (h0 : hi = none → mx = none) (h1 : mx.getD cap ≤ cap) (h2 : hi ≠ none → hi.getD len ≤ mx.getD cap) (h3 : lo.getD 0 ≤ hi.getD len) (w : World) :
    (Instr.sliceBounds isS len cap vlo vhi vmx).run X.P w = .ok (lo.getD 0, hi.getD len, mx.getD cap) w := by
  have sb : ∀ (m : Nat) (v : Value) (y : Nat) (code : BoundsCode), (∃ q, v = .int q (m : Int)) → m ≤ y → ∀ w, (Instr.sliceBound v y code).run X.P w = .ok m w := by
    rintro m v y code ⟨q, rfl⟩ hy w
    rw [run_sliceBound w q m y code (by omega) (by omega)]; simp
  cases mx with
  | none =>
    cases vmx with
    | some v => exact hmx.elim
    | none =>
      cases hi with
      | none =>
        cases vhi with
        | some v => exact hhi.elim
        | none =>
          cases lo with
          | none =>
            cases vlo with
            | some v => exact hlo.elim
            | none => simp [Instr.sliceBounds]
          | some l =>
            cases vlo with
            | none => exact hlo.elim
            | some v =>
              simp only [Option.getD] at h3
              simp [Instr.sliceBounds, sb l v len _ hlo h3]
      | some h =>
        cases vhi with
        | none => exact hhi.elim
        | some u =>
          have h2 := h2 (by simp)
          simp only [Option.getD] at h2 h3
          cases lo with
          | none =>
            cases vlo with
            | some v => exact hlo.elim
            | none => simp [Instr.sliceBounds, sb h u cap _ hhi h2]
          | some l =>
            cases vlo with
            | none => exact hlo.elim
            | some v => simp [Instr.sliceBounds, sb h u cap _ hhi h2, sb l v h _ hlo h3]
  | some m =>
    cases vmx with
    | none => exact hmx.elim
    | some um =>
      cases hi with
      | none => cases h0 rfl
      | some h =>
        cases vhi with
        | none => exact hhi.elim
        | some u =>
          have h2 := h2 (by simp)
          simp only [Option.getD] at h1 h2 h3
          cases lo with
          | none =>
            cases vlo with
            | some v => exact hlo.elim
            | none => simp [Instr.sliceBounds, sb m um cap _ hmx h1, sb h u m _ hhi h2]
          | some l =>
            cases vlo with
            | none => exact hlo.elim
            | some v => simp [Instr.sliceBounds, sb m um cap _ hmx h1, sb h u m _ hhi h2, sb l v h _ hlo h3]

noncomputable def oN (o : Option Nat) (d : Nat → Bool) (e : Bool) : Bool := Option.rec (motive := fun _ => Bool) e d o

/-! ### slices of texts -/
noncomputable def opSlstr (x : MO) (lo hi : Option MO) (fr : Fr) (h : H) (k : Kt) : Bool := x.getK fr fun a => match a with
  | .str s => bndK lo fr fun l => bndK hi fr fun u =>
      oN u (fun u => oN l (fun l => chk (Nat.ble l u) (sdropK l s fun s => fN (Nat.sub u l) fun m => stakeK m s fun s => k (.str s) h)) (stakeK u s fun s => k (.str s) h))
        (oN l (fun l => sdropK l s fun s => k (.str s) h) (k (.str s) h))
  | _ => false
theorem opSlstr_inv {o : Oper} {t : TypeId} {x : Operand} {lo hi : Option Operand} {m : MO} {mlo mhi : Option MO} {h : H} {k : Kt} (ho : o.op = .slice t x lo hi none) (ht : X.E.und t = some .string) (hm : mo X.ng n x = some m)
    (hlo : mopt X.ng n lo = some mlo) (hhi : mopt X.ng n hi = some mhi) (hk : opSlstr m mlo mhi fr h k = true) : ∃ v, k v h = true ∧ Pure X n fr o v := by
  unfold opSlstr at hk
  rw [MO.getK_eq] at hk
  split at hk
  · rename_i s hs
    obtain ⟨l, hk, hl⟩ := bndK_inv (L := Lop o) hlo hk
    obtain ⟨u, hk, hu⟩ := bndK_inv (L := Lop o) hhi hk
    have key : ∀ r : List Nat, l.getD 0 ≤ u.getD s.length → u.getD s.length ≤ s.length → r = (s.drop (l.getD 0)).take (u.getD s.length - l.getD 0) → k (.str r) h = true → ∃ v, k v h = true ∧ Pure X n fr o v := by
      intro r h1 h2 h3 hk
      refine ⟨_, hk, pureV (s := fun a => Instr.sliceAt t (a.eval x) (lo.map a.eval) (hi.map a.eval) none) (fun a => by simp only [execOp, ho]; rfl) fun σ a w hf => ?_⟩
      have hv := mo_V hm hf (lop (by rw [ho]; simp [Op.operands]))
      rw [hs] at hv
      obtain ⟨b, hb, hn⟩ := hv.str_inv
      have hbl := hl σ a hf (fun y hy => lop (by rw [ho, hy]; simp [Op.operands]))
      have hbu := hu σ a hf (fun y hy => lop (by rw [ho, hy]; simp [Op.operands]))
      have hsz : b.size = s.length := len_of hn
      have hr := run_bounds (X := X) (isS := false) (len := b.size) (cap := b.size) (mx := none) (vmx := none) hbl hbu trivial (fun _ => rfl) (Nat.le_refl _) (by rw [hsz]; intro _; exact h2) (by rw [hsz]; exact h1) w
      refine ⟨.string (b.extract (l.getD 0) (u.getD b.size)), ?_, _, rfl, ?_⟩
      · simp only [Instr.sliceAt, Instr.slice, Sem.run_bind, run_und ht, Result.andThen_ok, hb, hr, Sem.run_pure]
        simp [run_und ht, hr]
      · rw [nums_extract, hn, h3, hsz, List.map_take, List.map_drop]
    cases u with
    | none =>
      cases l with
      | none => exact key s (by simp) (by simp) (by simp) hk
      | some l =>
        obtain ⟨h1, hk⟩ := sdropK_inv hk
        exact key _ (by simpa using h1) (by simp) (by simp [List.take_of_length_le]) hk
    | some u =>
      cases l with
      | none =>
        obtain ⟨h1, hk⟩ := stakeK_inv hk
        exact key _ (by simp) (by simpa using h1) (by simp) hk
      | some l =>
        obtain ⟨h0, hk⟩ := chk_eq hk
        rw [ble_true] at h0
        obtain ⟨h1, hk⟩ := sdropK_inv hk
        rw [fN_eq] at hk
        obtain ⟨h2, hk⟩ := stakeK_inv hk
        have e : Nat.sub u l = u - l := rfl
        rw [e] at h2 hk
        rw [List.length_drop] at h2
        exact key _ (by simpa using h0) (by simp; omega) (by simp) hk
  · cases hk

/-! ### slices of slices -/
noncomputable def sel2 (b : Bool) (x y : Nat) : Nat := Bool.rec (motive := fun _ => Nat) y x b
theorem sel2_eq (b : Bool) (x y : Nat) : sel2 b x y = if b then x else y := by cases b <;> rfl
noncomputable def opSlsl (es : Nat) (x : MO) (lo hi mx : Option MO) (fr : Fr) (h : H) (k : Kt) : Bool := x.getK fr fun a => match a with
  | .sl b o len cap ext => bndK lo fr fun l => bndK hi fr fun u => bndK mx fr fun m =>
      fN (l.getD 0) fun l' => fN (u.getD len) fun u' => chk (Nat.ble l' u') (
        oN m (fun m' => oN u (fun _ => chk (Nat.ble u' m') (chk (Nat.ble m' cap) (fN (sel2 (Nat.beq m' l') o (Nat.add o (Nat.mul l' es))) fun o' => fN (Nat.sub u' l') fun len' => fN (Nat.sub m' l') fun cap' => k (.sl b o' len' cap' 0) h))) false)
          (chk (Nat.ble u' cap) (sel (Nat.beq l' 0) (k (.sl b o u' cap ext) h)
            (sel (Nat.beq l' cap) (chk (Nat.beq ext 0) (k (.sl b o 0 0 0) h))
              (chk (sel (Nat.beq ext 0) true (Nat.beq ext es)) (fN (Nat.add o (Nat.mul l' es)) fun o' => fN (Nat.sub u' l') fun len' => fN (Nat.sub cap l') fun cap' => k (.sl b o' len' cap' ext) h))))))
  | .nils => bndK lo fr fun l => bndK hi fr fun u => bndK mx fr fun m => chk (Nat.beq (l.getD 0) 0) (chk (Nat.beq (u.getD 0) 0) (oN m (fun _ => false) (k .nils h)))
  | _ => false
theorem opSlsl_inv {o : Oper} {t e : TypeId} {i : TypeInfo} {x : Operand} {lo hi mx : Option Operand} {m : MO} {mlo mhi mmx : Option MO} {h : H} {k : Kt} (ho : o.op = .slice t x lo hi mx) (ht : X.E.und t = some (.slice e)) (he : X.E.ty e = some i)
    (hm : mo X.ng n x = some m) (hlo : mopt X.ng n lo = some mlo) (hhi : mopt X.ng n hi = some mhi) (hmx : mopt X.ng n mx = some mmx) (hk : opSlsl i.size m mlo mhi mmx fr h k = true) : ∃ v, k v h = true ∧ Pure X n fr o v := by
  unfold opSlsl at hk
  rw [MO.getK_eq] at hk
  split at hk
  · rename_i b ob len cap ext hs
    obtain ⟨l, hk, hl⟩ := bndK_inv (L := Lop o) hlo hk
    obtain ⟨u, hk, hu⟩ := bndK_inv (L := Lop o) hhi hk
    obtain ⟨mm, hk, hmm⟩ := bndK_inv (L := Lop o) hmx hk
    rw [fN_eq, fN_eq] at hk
    obtain ⟨h1, hk⟩ := chk_eq hk
    rw [ble_true] at h1
    -- what is left to show, once for all
    have key : ∀ r : AV, k r h = true → (u = none → mm = none) →
        (∀ σ B c, σ.bk b = some B → len ≤ cap → cap ≤ c → (ext = 0 → c = cap) → (ext ≠ 0 → ob + c * ext = B.n) →
          mm.getD c ≤ c ∧ (u ≠ none → u.getD len ≤ mm.getD c) ∧
          V σ r (.slice (if mm.getD c = l.getD 0 then some ⟨B.r, B.o + ob, none⟩ else (some (⟨B.r, B.o + ob, none⟩ : Addr)).map (·.add (l.getD 0 * i.size))) (u.getD len - l.getD 0) (mm.getD c - l.getD 0))) →
        ∃ v, k v h = true ∧ Pure X n fr o v := by
      intro r hk h0 hr
      refine ⟨_, hk, pureV (s := fun a => Instr.sliceAt t (a.eval x) (lo.map a.eval) (hi.map a.eval) (mx.map a.eval)) (fun a => by simp only [execOp, ho]) fun σ a w hf => ?_⟩
      have hv := mo_V hm hf (lop (by rw [ho]; simp [Op.operands]))
      rw [hs] at hv
      obtain ⟨B, c, hB, hvv, hlc, hcc, hx0, hx1⟩ := (hv : ∃ x c, _)
      obtain ⟨g1, g2, g3⟩ := hr σ B c hB hlc hcc hx0 hx1
      have hbl := hl σ a hf (fun y hy => lop (by rw [ho, hy]; simp [Op.operands]))
      have hbu := hu σ a hf (fun y hy => lop (by rw [ho, hy]; simp [Op.operands]))
      have hbm := hmm σ a hf (fun y hy => lop (by rw [ho, hy]; simp [Op.operands]))
      have hb := run_bounds (X := X) (isS := true) (len := len) (cap := c) hbl hbu hbm h0 g1 g2 h1 w
      refine ⟨_, ?_, g3⟩
      simp only [Instr.sliceAt, Instr.slice, Sem.run_bind, run_und ht, Result.andThen_ok, hvv, hb, run_size he, Sem.run_pure]
    cases mm with
    | some m' =>
      cases u with
      | none => cases hk
      | some u' =>
        obtain ⟨h2, hk⟩ := chk_eq hk
        obtain ⟨h3, hk⟩ := chk_eq hk
        rw [ble_true] at h2 h3
        simp only [fN_eq] at hk
        refine key _ hk (fun h => by cases h) fun σ B c hB hlc hcc hx0 hx1 => ⟨Nat.le_trans h3 hcc, fun _ => h2, B, m' - l.getD 0, hB, ?_, ?_, Nat.le_refl _, fun _ => rfl, fun h => absurd rfl h⟩
        · simp only [Option.getD_some, sel2_eq]
          by_cases e : m' = l.getD 0
          · have : Nat.beq m' (l.getD 0) = true := beq_true.2 e
            rw [if_pos e, this, if_pos rfl]; rfl
          · have : Nat.beq m' (l.getD 0) = false := nbf.2 e
            rw [if_neg e, this, if_neg (by simp)]
            simp only [Option.map_some, addr_add]
            rw [Nat.add_assoc]; rfl
        · simp only [Option.getD_some] at h1 h2 ⊢
          show u' - l.getD 0 ≤ m' - l.getD 0
          omega
    | none =>
      obtain ⟨h2, hk⟩ := chk_eq hk
      rw [ble_true] at h2
      rcases sel_eq hk with ⟨h3, hk⟩ | ⟨h3, hk⟩
      · rw [beq_true] at h3
        refine key _ hk (fun _ => rfl) fun σ B c hB hlc hcc hx0 hx1 => ⟨Nat.le_refl _, fun _ => Nat.le_trans h2 hcc, B, c, hB, ?_, h2, hcc, hx0, hx1⟩
        rw [h3]
        simp only [Option.getD_none, Option.map_some, addr_add, Nat.zero_mul, Nat.add_zero, Nat.sub_zero, ite_self]
      · rw [nbf] at h3
        rcases sel_eq hk with ⟨h4, hk⟩ | ⟨h4, hk⟩
        · obtain ⟨h5, hk⟩ := chk_eq hk
          rw [beq_true] at h4 h5
          refine key _ hk (fun _ => rfl) fun σ B c hB hlc hcc hx0 hx1 => ⟨Nat.le_refl _, fun _ => Nat.le_trans h2 hcc, B, 0, hB, ?_, Nat.le_refl _, Nat.le_refl _, fun _ => rfl, fun h => absurd rfl h⟩
          have hc := hx0 h5
          rw [Option.getD_none, if_pos (by omega)]
          have e1 : u.getD len - l.getD 0 = 0 := by omega
          have e2 : c - l.getD 0 = 0 := by omega
          rw [e1, e2]
        · rw [nbf] at h4
          obtain ⟨h5, hk⟩ := chk_eq hk
          simp only [fN_eq] at hk
          have hes : ext = 0 ∨ ext = i.size := by
            rcases sel_eq h5 with ⟨h, _⟩ | ⟨_, h⟩
            · exact .inl (beq_true.1 h)
            · exact .inr (beq_true.1 h)
          refine key _ hk (fun _ => rfl) fun σ B c hB hlc hcc hx0 hx1 => ⟨Nat.le_refl _, fun _ => Nat.le_trans h2 hcc, B, c - l.getD 0, hB, ?_, ?_, ?_, ?_, ?_⟩
          · rw [Option.getD_none, if_neg (by omega)]
            simp only [Option.map_some, addr_add]
            rw [Nat.add_assoc]; rfl
          · show u.getD len - l.getD 0 ≤ cap - l.getD 0
            omega
          · show cap - l.getD 0 ≤ c - l.getD 0
            omega
          · intro h; have := hx0 h; show c - l.getD 0 = cap - l.getD 0; omega
          · intro h
            have h6 := hx1 h
            have h7 : ext = i.size := hes.resolve_left h
            rw [h7] at h6 ⊢
            show ob + l.getD 0 * i.size + (c - l.getD 0) * i.size = B.n
            rw [Nat.sub_mul]
            have : l.getD 0 * i.size ≤ c * i.size := Nat.mul_le_mul_right _ (by omega)
            omega
  · rename_i hs
    obtain ⟨l, hk, hl⟩ := bndK_inv (L := Lop o) hlo hk
    obtain ⟨u, hk, hu⟩ := bndK_inv (L := Lop o) hhi hk
    obtain ⟨mm, hk, hmm⟩ := bndK_inv (L := Lop o) hmx hk
    obtain ⟨h1, hk⟩ := chk_eq hk
    obtain ⟨h2, hk⟩ := chk_eq hk
    rw [beq_true] at h1 h2
    cases mm with
    | some m' => cases hk
    | none =>
      refine ⟨_, hk, pureV (s := fun a => Instr.sliceAt t (a.eval x) (lo.map a.eval) (hi.map a.eval) (mx.map a.eval)) (fun a => by simp only [execOp, ho]) fun σ a w hf => ?_⟩
      have hv := mo_V hm hf (lop (by rw [ho]; simp [Op.operands]))
      rw [hs] at hv
      have hvv : a.eval x = .slice none 0 0 := hv
      have hbl := hl σ a hf (fun y hy => lop (by rw [ho, hy]; simp [Op.operands]))
      have hbu := hu σ a hf (fun y hy => lop (by rw [ho, hy]; simp [Op.operands]))
      have hbm := hmm σ a hf (fun y hy => lop (by rw [ho, hy]; simp [Op.operands]))
      have hb := run_bounds (X := X) (isS := true) (len := 0) (cap := 0) hbl hbu hbm (fun _ => rfl) (Nat.le_refl _) (fun _ => by rw [h2]; exact Nat.zero_le _) (by rw [h1]; exact Nat.zero_le _) w
      refine ⟨.slice none 0 0, ?_, rfl⟩
      simp only [Instr.sliceAt, Instr.slice, Sem.run_bind, run_und ht, Result.andThen_ok, hvv, hb, run_size he, Sem.run_pure, h1, h2, Option.getD_none]
      simp
  · cases hk

/-! ### addresses -/
noncomputable def opFad (x : MO) (off : Nat) (fr : Fr) (h : H) (k : Kt) : Bool := x.getK fr fun a => match a with
  | .ptr b o => fN (Nat.add o off) fun o => k (.ptr b o) h
  | _ => false
theorem opFad_inv {o : Oper} {t : TypeId} {fs : Array Go.Field} {f : Nat} {fd : Go.Field} {i : TypeInfo} {x : Operand} {m : MO} {h : H} {k : Kt} (ho : o.op = .fieldAddr t x f) (ht : X.E.und t = some (.struct fs)) (hfd : fs[f]? = some fd)
    (hi : X.E.ty fd.type = some i) (h0 : 0 < i.size) (hm : mo X.ng n x = some m) (hk : opFad m fd.offset fr h k = true) : ∃ v, k v h = true ∧ Pure X n fr o v := by
  unfold opFad at hk
  rw [MO.getK_eq] at hk
  split at hk
  · rename_i b ob hs
    rw [fN_eq] at hk
    refine ⟨_, hk, pureV (s := fun a => Instr.fieldAt t (a.eval x) f) (fun a => by simp only [execOp, ho]) fun σ a w hf => ?_⟩
    have hv := mo_V hm hf (lop (by rw [ho]; simp [Op.operands]))
    rw [hs] at hv
    obtain ⟨B, hB, hvv⟩ := hv.ptr_inv
    refine ⟨.pointer (some ⟨B.r, B.o + (ob + fd.offset), none⟩), ?_, B, hB, rfl⟩
    have hz : ¬ i.size = 0 := by omega
    simp only [Instr.fieldAt, Sem.run_bind, run_und ht, Result.andThen_ok, hfd, hvv, Instr.sureAddr, Sem.run_pure, fieldPlace, run_size hi, if_neg hz, addr_add, Nat.add_assoc]
  · cases hk
noncomputable def opFld (x : MO) (off : Nat) (fr : Fr) (h : H) (k : Kt) : Bool := x.getK fr fun a => match a with
  | .agg l => AV.nthK off l fun v => k v h
  | _ => false
theorem opFld_inv {o : Oper} {t : TypeId} {fs : Array Go.Field} {f : Nat} {fd : Go.Field} {d : TypeDesc} {x : Operand} {m : MO} {h : H} {k : Kt} (ho : o.op = .field t x f) (ht : X.E.und t = some (.struct fs)) (hfd : fs[f]? = some fd)
    (hd : X.E.und fd.type = some d) (hag : isAggD d = false) (hm : mo X.ng n x = some m) (hk : opFld m fd.offset fr h k = true) : ∃ v, k v h = true ∧ Pure X n fr o v := by
  unfold opFld at hk
  rw [MO.getK_eq] at hk
  split at hk
  · rename_i l hs
    obtain ⟨v, hv, hk⟩ := AV.nthK_inv hk
    refine ⟨_, hk, pureV (s := fun a => Instr.field t (a.eval x) f) (fun a => by simp only [execOp, ho]) fun σ a w hf => ?_⟩
    have hx := mo_V hm hf (lop (by rw [ho]; simp [Op.operands]))
    rw [hs] at hx
    obtain ⟨cs, hc, hl⟩ := hx.agg_inv
    obtain ⟨u, hu, hV⟩ := hl.nth hv
    refine ⟨u, ?_, hV⟩
    simp only [Array.getElem?_toList] at hu
    simp only [Instr.field, Sem.run_bind, run_und ht, Result.andThen_ok, hfd, hc, asAgg, Sem.run_pure, part, run_isAgg hd, hag, hu]
    simp
  · cases hk
noncomputable def opFldn (x : MO) (off m : Nat) (fr : Fr) (h : H) (k : Kt) : Bool := x.getK fr fun a => match a with
  | .agg l => rdropK off l fun l => rtakeK m l fun l => k (.agg l) h
  | _ => false
theorem opFldn_inv {o : Oper} {t : TypeId} {fs : Array Go.Field} {f : Nat} {fd : Go.Field} {d : TypeDesc} {i : TypeInfo} {x : Operand} {m : MO} {h : H} {k : Kt} (ho : o.op = .field t x f) (ht : X.E.und t = some (.struct fs)) (hfd : fs[f]? = some fd)
    (hd : X.E.und fd.type = some d) (hi : X.E.ty fd.type = some i) (hag : isAggD d = true) (hm : mo X.ng n x = some m) (hk : opFldn m fd.offset i.size fr h k = true) : ∃ v, k v h = true ∧ Pure X n fr o v := by
  unfold opFldn at hk
  rw [MO.getK_eq] at hk
  split at hk
  · rename_i l hs
    obtain ⟨h1, hk⟩ := rdropK_inv hk
    obtain ⟨h2, hk⟩ := rtakeK_inv hk
    refine ⟨_, hk, pureV (s := fun a => Instr.field t (a.eval x) f) (fun a => by simp only [execOp, ho]) fun σ a w hf => ?_⟩
    have hx := mo_V hm hf (lop (by rw [ho]; simp [Op.operands]))
    rw [hs] at hx
    obtain ⟨cs, hc, hl⟩ := hx.agg_inv
    refine ⟨.agg (cs.extract fd.offset (fd.offset + i.size)), ?_, _, rfl, ?_⟩
    · simp only [Instr.field, Sem.run_bind, run_und ht, Result.andThen_ok, hfd, hc, asAgg, Sem.run_pure, part, run_isAgg hd, hag, run_size hi, if_true]
    · have := VL.take (VL.drop hl h1) h2
      rw [Array.toList_extract]
      show VL σ _ _
      simpa using this
  · cases hk

/-- an index: a number not below zero -/
noncomputable def ixK (a : AV) (k : Nat → Bool) : Bool := match a with | .int _ (.ofNat i) => k i | _ => false
theorem ixK_inv {a : AV} {k : Nat → Bool} (h : ixK a k = true) : ∃ q i, a = .int q (.ofNat i) ∧ k i = true := by
  unfold ixK at h
  split at h
  · exact ⟨_, _, rfl, h⟩
  · cases h
noncomputable def opIad (es : Nat) (x i : MO) (fr : Fr) (h : H) (k : Kt) : Bool := x.getK fr fun a => i.getK fr fun c => ixK c fun i => match a with
  | .sl b o len _ _ => chk (Nat.blt i len) (fN (Nat.add o (Nat.mul i es)) fun o => k (.ptr b o) h)
  | _ => false
theorem opIad_inv {o : Oper} {t e : TypeId} {i : TypeInfo} {x ix : Operand} {m mi : MO} {h : H} {k : Kt} (ho : o.op = .indexAddr t x ix) (ht : X.E.und t = some (.slice e)) (hi : X.E.ty e = some i) (hm : mo X.ng n x = some m) (hmi : mo X.ng n ix = some mi)
    (hk : opIad i.size m mi fr h k = true) : ∃ v, k v h = true ∧ Pure X n fr o v := by
  unfold opIad at hk
  simp only [MO.getK_eq] at hk
  obtain ⟨q, j, hj, hk⟩ := ixK_inv hk
  split at hk
  · rename_i b ob len cap ext hs
    obtain ⟨h1, hk⟩ := chk_eq hk
    rw [fN_eq] at hk
    rw [blt_eq, decide_eq_true_eq] at h1
    refine ⟨_, hk, pureV (s := fun a => Instr.indexAt t (a.eval x) (a.eval ix)) (fun a => by simp only [execOp, ho]) fun σ a w hf => ?_⟩
    have hv := mo_V hm hf (lop (by rw [ho]; simp [Op.operands]))
    have hv2 := mo_V hmi hf (lop (by rw [ho]; simp [Op.operands]))
    rw [hs] at hv
    rw [hj] at hv2
    obtain ⟨B, c, hB, hvv, _⟩ := (hv : ∃ x c, _)
    refine ⟨.pointer (some ⟨B.r, B.o + (ob + j * i.size), none⟩), ?_, B, hB, rfl⟩
    have hc : (0 : Int) ≤ (j : Int) ∧ (j : Int) < (len : Int) := by omega
    simp only [Instr.indexAt, hv2.int_inv, asIntOf, Sem.run_bind, Sem.run_pure, Result.andThen_ok, run_und ht, hvv, Int.ofNat_eq_natCast, if_pos hc, run_size hi, addr_add, Int.toNat_natCast, Nat.add_assoc]
  · cases hk
noncomputable def opIada (es len : Nat) (x i : MO) (fr : Fr) (h : H) (k : Kt) : Bool := x.getK fr fun a => i.getK fr fun c => ixK c fun i => match a with
  | .ptr b o => chk (Nat.blt i len) (fN (Nat.add o (Nat.mul i es)) fun o => k (.ptr b o) h)
  | _ => false
theorem opIada_inv {o : Oper} {t e : TypeId} {len : Nat} {i : TypeInfo} {x ix : Operand} {m mi : MO} {h : H} {k : Kt} (ho : o.op = .indexAddr t x ix) (ht : X.E.und t = some (.array len e)) (hi : X.E.ty e = some i) (hm : mo X.ng n x = some m) (hmi : mo X.ng n ix = some mi)
    (hk : opIada i.size len m mi fr h k = true) : ∃ v, k v h = true ∧ Pure X n fr o v := by
  unfold opIada at hk
  simp only [MO.getK_eq] at hk
  obtain ⟨q, j, hj, hk⟩ := ixK_inv hk
  split at hk
  · rename_i b ob hs
    obtain ⟨h1, hk⟩ := chk_eq hk
    rw [fN_eq] at hk
    rw [blt_eq, decide_eq_true_eq] at h1
    refine ⟨_, hk, pureV (s := fun a => Instr.indexAt t (a.eval x) (a.eval ix)) (fun a => by simp only [execOp, ho]) fun σ a w hf => ?_⟩
    have hv := mo_V hm hf (lop (by rw [ho]; simp [Op.operands]))
    have hv2 := mo_V hmi hf (lop (by rw [ho]; simp [Op.operands]))
    rw [hs] at hv
    rw [hj] at hv2
    obtain ⟨B, hB, hvv⟩ := hv.ptr_inv
    refine ⟨.pointer (some ⟨B.r, B.o + (ob + j * i.size), none⟩), ?_, B, hB, rfl⟩
    have hc : (0 : Int) ≤ (j : Int) ∧ (j : Int) < (len : Int) := by omega
    simp only [Instr.indexAt, hv2.int_inv, asIntOf, Sem.run_bind, Sem.run_pure, Result.andThen_ok, run_und ht, hvv, Instr.sureAddr, Int.ofNat_eq_natCast, if_pos hc, run_size hi, addr_add, Int.toNat_natCast, Nat.add_assoc]
  · cases hk
noncomputable def opIxs (x i : MO) (fr : Fr) (h : H) (k : Kt) : Bool := x.getK fr fun a => i.getK fr fun c => ixK c fun i => match a with
  | .str s => snthK i s fun c => sel (Nat.blt c 256) (k (.int .u8 (.ofNat c)) h) (k (.sym c) h)
  | _ => false
theorem opIxs_inv {o : Oper} {t : TypeId} {x ix : Operand} {m mi : MO} {h : H} {k : Kt} (ho : o.op = .index t x ix) (ht : X.E.und t = some .string) (hm : mo X.ng n x = some m) (hmi : mo X.ng n ix = some mi)
    (hk : opIxs m mi fr h k = true) : ∃ v, k v h = true ∧ Pure X n fr o v := by
  unfold opIxs at hk
  simp only [MO.getK_eq] at hk
  obtain ⟨q, j, hj, hk⟩ := ixK_inv hk
  split at hk
  · rename_i s hs
    obtain ⟨c, h1, hk⟩ := snthK_inv hk
    have main : ∀ v, k v h = true → (∀ σ : Sig, V σ v (.int .u8 (σ.sym.bv c : Nat))) → ∃ v, k v h = true ∧ Pure X n fr o v := by
      intro v hk hV
      refine ⟨_, hk, pureV (s := fun a => Instr.index t (a.eval x) (a.eval ix)) (fun a => by simp only [execOp, ho]) fun σ a w hf => ?_⟩
      have hv := mo_V hm hf (lop (by rw [ho]; simp [Op.operands]))
      have hv2 := mo_V hmi hf (lop (by rw [ho]; simp [Op.operands]))
      rw [hs] at hv
      rw [hj] at hv2
      obtain ⟨t', ht', hn⟩ := hv.str_inv
      have hb : ∃ b : UInt8, t'.data[j]? = some b ∧ b.toNat = σ.sym.bv c := by
        have h1' : (nums t')[j]? = some (σ.sym.bv c) := by rw [hn, List.getElem?_map, h1]; rfl
        simp only [nums, List.getElem?_map, Option.map_eq_some_iff] at h1'
        obtain ⟨b, h2, h3⟩ := h1'
        exact ⟨b, by simpa using h2, h3⟩
      obtain ⟨b, h2, h3⟩ := hb
      have h4 : t'[j]? = some b := by
        obtain ⟨h5, h6⟩ := Array.getElem?_eq_some_iff.1 h2
        have h7 : j < t'.size := h5
        rw [getElem?_pos t' j h7]
        congr 1
      refine ⟨.int .u8 (σ.sym.bv c : Nat), ?_, hV σ⟩
      simp only [Instr.index, hv2.int_inv, asIntOf, Sem.run_bind, Sem.run_pure, Result.andThen_ok, run_und ht, ht', Int.ofNat_eq_natCast, Int.toNat_natCast]
      rw [if_pos (by omega)]
      simp only [h4, h3, Sem.run_pure]
    rw [blt_eq] at hk
    rcases sel_eq hk with ⟨g, hk⟩ | ⟨g, hk⟩
    · rw [decide_eq_true_eq] at g
      exact main _ hk fun σ => by rw [σ.sym.bv_lt g]; rfl
    · rw [decide_eq_false_iff_not] at g
      exact main _ hk fun σ => by show _ = σ.sym.val c; rw [σ.sym.val_dig (by omega)]
  · cases hk
noncomputable def opIxa (len : Nat) (x i : MO) (fr : Fr) (h : H) (k : Kt) : Bool := x.getK fr fun a => i.getK fr fun c => ixK c fun i => match a with
  | .agg l => chk (Nat.blt i len) (AV.nthK i l fun v => k v h)
  | _ => false
theorem opIxa_inv {o : Oper} {t e : TypeId} {len : Nat} {i : TypeInfo} {d : TypeDesc} {x ix : Operand} {m mi : MO} {h : H} {k : Kt} (ho : o.op = .index t x ix) (ht : X.E.und t = some (.array len e)) (hi : X.E.ty e = some i) (hsz : i.size = 1) (hd : X.E.und e = some d) (hag : isAggD d = false)
    (hm : mo X.ng n x = some m) (hmi : mo X.ng n ix = some mi) (hk : opIxa len m mi fr h k = true) : ∃ v, k v h = true ∧ Pure X n fr o v := by
  unfold opIxa at hk
  simp only [MO.getK_eq] at hk
  obtain ⟨q, j, hj, hk⟩ := ixK_inv hk
  split at hk
  · rename_i l hs
    obtain ⟨h1, hk⟩ := chk_eq hk
    rw [blt_eq, decide_eq_true_eq] at h1
    obtain ⟨v, hv0, hk⟩ := AV.nthK_inv hk
    refine ⟨_, hk, pureV (s := fun a => Instr.index t (a.eval x) (a.eval ix)) (fun a => by simp only [execOp, ho]) fun σ a w hf => ?_⟩
    have hv := mo_V hm hf (lop (by rw [ho]; simp [Op.operands]))
    have hv2 := mo_V hmi hf (lop (by rw [ho]; simp [Op.operands]))
    rw [hs] at hv
    rw [hj] at hv2
    obtain ⟨cs, hc, hl⟩ := hv.agg_inv
    obtain ⟨u, hu, hV⟩ := hl.nth hv0
    simp only [Array.getElem?_toList] at hu
    refine ⟨u, ?_, hV⟩
    have hcc : (0 : Int) ≤ (j : Int) ∧ (j : Int) < (len : Int) := by omega
    simp only [Instr.index, hv2.int_inv, asIntOf, Sem.run_bind, Sem.run_pure, Result.andThen_ok, run_und ht, hc, Int.ofNat_eq_natCast, if_pos hcc, run_size hi, hsz, Nat.mul_one, Int.toNat_natCast, part, run_isAgg hd, hag, hu]
    simp
  · cases hk

/-! ### cap, min, max -/
theorem run_call_builtin {b : Builtin} {c : Call} {a : Act} {ty : TypeId} (hc : c.callee = .builtin b) (w : World) (P : Program) :
    ∃ cs, (do let d ← resolve a.eval c ty; invoke d.target d.args : Sem Next).run P w = (builtin b c.argTypes ty cs (c.args.map a.eval)).run P w := by
  refine ⟨c.args.map fun | .const _ => true | _ => false, ?_⟩
  simp only [resolve, hc, Sem.run_bind, Sem.run_pure, Result.andThen_ok, invoke]
  rfl
theorem args1 {c : Call} {x : Operand} (h : c.args.toList = [x]) : c.args = #[x] := by
  cases hc : c.args; rw [hc] at h; simp at h; rw [h]
theorem args2 {c : Call} {x y : Operand} (h : c.args.toList = [x, y]) : c.args = #[x, y] := by
  cases hc : c.args; rw [hc] at h; simp at h; rw [h]
noncomputable def opCap (x : MO) (fr : Fr) (h : H) (k : Kt) : Bool := x.getK fr fun a => match a with
  | .sl _ _ _ cap ext => chk (Nat.beq ext 0) (k (.int .i64 (.ofNat cap)) h)
  | .nils => k (.int .i64 (.ofNat 0)) h
  | _ => false
theorem opCap_inv {o : Oper} {c : Call} {t e : TypeId} {x : Operand} {m : MO} {h : H} {k : Kt} (ho : o.op = .call c) (hc : c.callee = .builtin .cap) (ha : c.args.toList = [x]) (hat : c.argTypes[0]? = some t) (ht : X.E.und t = some (.slice e)) (hm : mo X.ng n x = some m)
    (hk : opCap m fr h k = true) : ∃ v, k v h = true ∧ Pure X n fr o v := by
  have ha := args1 ha
  unfold opCap at hk
  rw [MO.getK_eq] at hk
  have hx : ∀ t, x = .tmp t → Lop o t := lop (by rw [ho]; simp [Op.operands, Call.operands, ha])
  split at hk
  · rename_i b ob len cap ext hs
    obtain ⟨h1, hk⟩ := chk_eq hk
    rw [beq_true] at h1
    refine ⟨_, hk, fun σ a w hf => ⟨_, ?_, rfl⟩⟩
    have hv := mo_V hm hf hx
    rw [hs] at hv
    obtain ⟨B, c', hB, hvv, _, _, hx0, _⟩ := (hv : ∃ x c, _)
    simp only [execOp, ho]
    obtain ⟨cs, hcs⟩ := run_call_builtin (a := a) (ty := o.type) hc w X.P
    rw [hcs]
    simp [builtin, Builtin.cap_, ha, hat, hvv, run_und ht, goInt, hx0 h1]
  · rename_i hs
    refine ⟨_, hk, fun σ a w hf => ⟨_, ?_, rfl⟩⟩
    have hv := mo_V hm hf hx
    rw [hs] at hv
    have hvv : a.eval x = .slice none 0 0 := hv
    simp only [execOp, ho]
    obtain ⟨cs, hcs⟩ := run_call_builtin (a := a) (ty := o.type) hc w X.P
    rw [hcs]
    simp [builtin, Builtin.cap_, ha, hat, hvv, run_und ht, goInt]
  · cases hk
noncomputable def opMin (fc : List Fact) (x y : MO) (fr : Fr) (h : H) (k : Kt) : Bool := x.getK fr fun a => y.getK fr fun b => match a, b with
  | .int q i, .int _ j => sel (ilt j i) (k (.int q j) h) (k (.int q i) h)
  | .sym i, .int q j => fcK .min (.s i) (.c q j) (fun v => k v h) fc
  | .int q j, .sym i => fcK .min (.c q j) (.s i) (fun v => k v h) fc
  | _, _ => false
theorem opMin_inv {o : Oper} {c : Call} {x y : Operand} {mx my : MO} {h : H} {k : Kt} (ho : o.op = .call c) (hc : c.callee = .builtin .min) (ha : c.args.toList = [x, y]) (hmx : mo X.ng n x = some mx) (hmy : mo X.ng n y = some my)
    (hk : opMin X.fc mx my fr h k = true) : ∃ v, k v h = true ∧ Pure X n fr o v := by
  have ha := args2 ha
  unfold opMin at hk
  simp only [MO.getK_eq] at hk
  have hx : ∀ t, x = .tmp t → Lop o t := lop (by rw [ho]; simp [Op.operands, Call.operands, ha])
  have hy : ∀ t, y = .tmp t → Lop o t := lop (by rw [ho]; simp [Op.operands, Call.operands, ha])
  split at hk
  · rename_i q i q' j h1 h2
    have go : ∀ r, r = (if j < i then j else i) → k (.int q r) h = true → ∃ v, k v h = true ∧ Pure X n fr o v := by
      intro r hr hk
      refine ⟨_, hk, fun σ a w hf => ⟨_, ?_, rfl⟩⟩
      have hv := mo_V hmx hf hx
      have hv2 := mo_V hmy hf hy
      rw [h1] at hv
      rw [h2] at hv2
      simp only [execOp, ho]
      obtain ⟨cs, hcs⟩ := run_call_builtin (a := a) (ty := o.type) hc w X.P
      rw [hcs]
      simp [builtin, Builtin.min_, ha, hv.int_inv, hv2.int_inv, Builtin.min2, hr]
    rw [ilt_eq] at hk
    by_cases hl : j < i
    · rw [decide_eq_true hl, sel_true] at hk; exact go j (by rw [if_pos hl]) hk
    · rw [decide_eq_false hl, sel_false] at hk; exact go i (by rw [if_neg hl]) hk
  all_goals first
    | (cases hk; done)
    | (rename_i q j h1 h2
       obtain ⟨e, hK, he, hf⟩ := fact_at hk
       refine ⟨_, hK, fun σ a w hfit => ?_⟩
       have hv := mo_V hmx hfit hx
       have hv2 := mo_V hmy hfit hy
       rw [h1] at hv
       rw [h2] at hv2
       obtain ⟨p, z, p', z', e1, e2, h3, h4, h5⟩ := hf hfit.sane hv hv2
       have h5 := h5 p z p' z' h3 h4
       rw [he] at h5
       refine ⟨_, ?_, h5⟩
       simp only [execOp, ho]
       obtain ⟨cs, hcs⟩ := run_call_builtin (a := a) (ty := o.type) hc w X.P
       rw [hcs]
       simp [builtin, Builtin.min_, ha, e1, e2, Builtin.min2])
noncomputable def opMax (fc : List Fact) (x y : MO) (fr : Fr) (h : H) (k : Kt) : Bool := x.getK fr fun a => y.getK fr fun b => match a, b with
  | .int q i, .int _ j => sel (ilt i j) (k (.int q j) h) (k (.int q i) h)
  | .sym i, .int q j => fcK .max (.s i) (.c q j) (fun v => k v h) fc
  | .int q j, .sym i => fcK .max (.c q j) (.s i) (fun v => k v h) fc
  | _, _ => false
theorem opMax_inv {o : Oper} {c : Call} {x y : Operand} {mx my : MO} {h : H} {k : Kt} (ho : o.op = .call c) (hc : c.callee = .builtin .max) (ha : c.args.toList = [x, y]) (hmx : mo X.ng n x = some mx) (hmy : mo X.ng n y = some my)
    (hk : opMax X.fc mx my fr h k = true) : ∃ v, k v h = true ∧ Pure X n fr o v := by
  have ha := args2 ha
  unfold opMax at hk
  simp only [MO.getK_eq] at hk
  have hx : ∀ t, x = .tmp t → Lop o t := lop (by rw [ho]; simp [Op.operands, Call.operands, ha])
  have hy : ∀ t, y = .tmp t → Lop o t := lop (by rw [ho]; simp [Op.operands, Call.operands, ha])
  split at hk
  · rename_i q i q' j h1 h2
    have go : ∀ r, r = (if i < j then j else i) → k (.int q r) h = true → ∃ v, k v h = true ∧ Pure X n fr o v := by
      intro r hr hk
      refine ⟨_, hk, fun σ a w hf => ⟨_, ?_, rfl⟩⟩
      have hv := mo_V hmx hf hx
      have hv2 := mo_V hmy hf hy
      rw [h1] at hv
      rw [h2] at hv2
      simp only [execOp, ho]
      obtain ⟨cs, hcs⟩ := run_call_builtin (a := a) (ty := o.type) hc w X.P
      rw [hcs]
      simp [builtin, Builtin.max_, ha, hv.int_inv, hv2.int_inv, Builtin.max2, hr]
    rw [ilt_eq] at hk
    by_cases hl : i < j
    · rw [decide_eq_true hl, sel_true] at hk; exact go j (by rw [if_pos hl]) hk
    · rw [decide_eq_false hl, sel_false] at hk; exact go i (by rw [if_neg hl]) hk
  all_goals first
    | (cases hk; done)
    | (rename_i q j h1 h2
       obtain ⟨e, hK, he, hf⟩ := fact_at hk
       refine ⟨_, hK, fun σ a w hfit => ?_⟩
       have hv := mo_V hmx hfit hx
       have hv2 := mo_V hmy hfit hy
       rw [h1] at hv
       rw [h2] at hv2
       obtain ⟨p, z, p', z', e1, e2, h3, h4, h5⟩ := hf hfit.sane hv hv2
       have h5 := h5 p z p' z' h3 h4
       rw [he] at h5
       refine ⟨_, ?_, h5⟩
       simp only [execOp, ho]
       obtain ⟨cs, hcs⟩ := run_call_builtin (a := a) (ty := o.type) hc w X.P
       rw [hcs]
       simp [builtin, Builtin.max_, ha, e1, e2, Builtin.max2])

end Go.Ev
end

section
set_option linter.unusedVariables false
set_option linter.unusedSimpArgs false
namespace Go.Ev

variable {X : Cx} {σ : Sig} {n : Nat} {fr : Fr} {a : Act} {w : World} {L : Tmp → Prop}

/-! ### places -/
def Sig.set (σ : Sig) (b : Nat) (x : Bk) : Sig := ⟨fun c => if c = b then some x else σ.bk c, σ.sym⟩
theorem Sig.set_le {σ : Sig} {b : Nat} {x : Bk} (h : σ.bk b = none) : σ.le (σ.set b x) :=
  ⟨fun c y hy => by
    by_cases e : c = b
    · subst e; rw [h] at hy; cases hy
    · simp [Sig.set, e, hy], rfl⟩
theorem Sig.set_same {σ : Sig} {b : Nat} {x : Bk} : (σ.set b x).bk b = some x := by simp [Sig.set]
theorem Sig.set_ne {σ : Sig} {b c : Nat} {x : Bk} (h : c ≠ b) : (σ.set b x).bk c = σ.bk c := by simp [Sig.set, h]

/-! ### changes one behind the other -/
def seqC (W W' : Ch) : Ch := fun b => match W' b with | some x => some x | none => W b
theorem app_seqC (W W' : Ch) (G : Hp) : app (seqC W W') G = app W' (app W G) := by
  funext b; unfold app seqC; cases W' b <;> rfl

/-! ### what holds where the world has turned -/
theorem Ok.heap {G : Hp} {w' : World} (h : Ok X σ G w) (hw : w'.heap = w.heap) : Ok X σ G w' :=
  ⟨fun b x hx => let ⟨B, h1, h2⟩ := h.rel b x hx; ⟨B, h1, h2.turn (by rw [hw])⟩, h.sep, h.sane⟩
theorem Post.heap {G : Hp} {w' : World} (h : Ok X σ G w) (hw : w'.heap = w.heap) (h1 : w'.os = w.os) (h2 : w'.tape = w.tape) (h3 : w'.output = w.output) (i : Nat) : Post X σ G w i i σ G w' :=
  ⟨.refl _, fun _ _ => rfl, h.heap hw, h1, h2, h3, by rw [hw]; exact Nat.le_refl _, fun _ _ _ => by rw [hw], fun _ h => .inl h⟩
theorem Post.drew {G : Hp} (h : Ok X σ G w) (i : Nat) : Post X σ G w i i σ G w.drew := Post.heap (w' := w.drew) h rfl rfl rfl rfl i

theorem heap_alloc_new' (w : World) (o : Obj) : (w.alloc o).heap[w.heap.size]? = some o := by
  show (w.heap.push o)[w.heap.size]? = some o
  simp
theorem heap_alloc_old' (w : World) (o : Obj) {r : Nat} (h : r < w.heap.size) : (w.alloc o).heap[r]? = w.heap[r]? := by
  show (w.heap.push o)[r]? = _
  rw [Array.getElem?_push, if_neg (by omega)]

/-- a new block -/
theorem Post.alloc {G : Hp} {id m : Nat} {bl : Bl} {ob : Obj} (h : Ok X σ G w) (hid : σ.bk id = none) (hro : bl.ro = false)
    (hr : RelC X (σ.set id ⟨w.heap.size, 0, m⟩) (w.alloc ob) ⟨w.heap.size, 0, m⟩ bl.c) :
    Post X σ G w id (id + 1) (σ.set id ⟨w.heap.size, 0, m⟩) (app (one id (some bl)) G) (w.alloc ob) := by
  have hle : σ.le (σ.set id ⟨w.heap.size, 0, m⟩) := Sig.set_le hid
  have old : ∀ b x, app (one id (some bl)) G b = some x → b ≠ id → G b = some x := fun b x hx hb => by
    rw [app_one, if_neg hb] at hx; exact hx
  have lt : ∀ b x B, G b = some x → σ.bk b = some B → B.r < w.heap.size := fun b x B hx hB => by
    obtain ⟨B', h1, h2⟩ := h.rel b x hx
    rw [hB] at h1; cases h1
    exact h2.lt
  refine ⟨hle, fun b hb => Sig.set_ne (by omega), ⟨fun b x hx => ?_, ?_, h.sane.mono hle⟩, rfl, rfl, rfl, by simp, fun r hr' _ => heap_alloc_old' w ob hr', ?_⟩
  · by_cases e : b = id
    · subst e
      rw [app_one, if_pos rfl] at hx
      cases hx
      exact ⟨_, Sig.set_same, hr⟩
    · obtain ⟨B, h1, h2⟩ := h.rel b x (old b x hx e)
      exact ⟨B, hle.1 _ _ h1, (h2.mono hle).turn (heap_alloc_old' w ob h2.lt)⟩
  · intro b b' B B' x x' hne hx hx' hB hB'
    by_cases e : b = id
    · subst e
      have e' : b' ≠ b := fun h => hne h.symm
      rw [Sig.set_same] at hB; cases hB
      rw [Sig.set_ne e'] at hB'
      have := lt b' x' B' (old b' x' hx' e') hB'
      simp only; omega
    · rw [Sig.set_ne e] at hB
      by_cases e' : b' = id
      · subst e'
        rw [Sig.set_same] at hB'; cases hB'
        have := lt b x B (old b x hx e) hB
        simp only; omega
      · rw [Sig.set_ne e'] at hB'
        exact h.sep b b' B B' x x' hne (old b x hx e) (old b' x' hx' e') hB hB'
  · rintro r ⟨b, x, B, hx, hxr, hB, rfl⟩
    by_cases e : b = id
    · subst e
      rw [Sig.set_same] at hB; cases hB
      exact .inr (Nat.le_refl _)
    · rw [Sig.set_ne e] at hB
      exact .inl ⟨b, x, B, old b x hx e, hxr, hB, rfl⟩

/-- a block is turned -/
theorem Post.turn {G : Hp} {b : Nat} {x x' : Bl} {B : Bk} {w' : World} (h : Ok X σ G w) (hx : G b = some x) (hxr : x.ro = false) (hxr' : x'.ro = false) (hB : σ.bk b = some B) (hr : RelC X σ w' B x'.c)
    (hsz : w'.heap.size = w.heap.size) (hoth : ∀ r, r ≠ B.r → w'.heap[r]? = w.heap[r]?) (h1 : w'.os = w.os) (h2 : w'.tape = w.tape) (h3 : w'.output = w.output) (i : Nat) :
    Post X σ G w i i σ (app (one b (some x')) G) w' := by
  refine ⟨.refl _, fun _ _ => rfl, ⟨fun c y hy => ?_, ?_, h.sane⟩, h1, h2, h3, by omega, fun r _ hn => hoth r fun e => hn ⟨b, x, B, hx, hxr, hB, e.symm⟩, ?_⟩
  · rw [app_one] at hy
    by_cases e : c = b
    · subst e
      rw [if_pos rfl] at hy; cases hy
      exact ⟨B, hB, hr⟩
    · rw [if_neg e] at hy
      obtain ⟨C, h4, h5⟩ := h.rel c y hy
      exact ⟨C, h4, h5.turn (hoth _ (h.sep c b C B y x e hy hx h4 hB))⟩
  · intro c c' C C' y y' hne hy hy' hC hC'
    rw [app_one] at hy hy'
    by_cases e : c = b
    · subst e
      rw [if_neg (Ne.symm hne)] at hy'
      exact h.sep c c' C C' x y' hne hx hy' hC hC'
    · rw [if_neg e] at hy
      by_cases e' : c' = b
      · subst e'
        exact h.sep c c' C C' y x hne hy hx hC hC'
      · rw [if_neg e'] at hy'
        exact h.sep c c' C C' y y' hne hy hy' hC hC'
  · rintro r ⟨c, y, C, hy, hyr, hC, rfl⟩
    rw [app_one] at hy
    by_cases e : c = b
    · subst e
      exact .inl ⟨c, x, C, hx, hxr, hC, rfl⟩
    · rw [if_neg e] at hy
      exact .inl ⟨c, y, C, hy, hyr, hC, rfl⟩

/-- a block is given up -/
theorem Post.drop {G : Hp} {b : Nat} (h : Ok X σ G w) (i : Nat) : Post X σ G w i i σ (app (one b none) G) w := by
  have sub : ∀ c y, app (one b none) G c = some y → G c = some y := fun c y hy => by
    rw [app_one] at hy; split at hy
    · cases hy
    · exact hy
  exact ⟨.refl _, fun _ _ => rfl, ⟨fun c y hy => h.rel c y (sub c y hy), fun c c' C C' y y' hne hy hy' => h.sep c c' C C' y y' hne (sub _ _ hy) (sub _ _ hy'), h.sane⟩, rfl, rfl, rfl, Nat.le_refl _, fun _ _ _ => rfl,
    fun r ⟨c, y, C, hy, hyr, hC, hr⟩ => .inl ⟨c, y, C, sub _ _ hy, hyr, hC, hr⟩⟩

/-! ### steps -/
/-- what an operation needs, what it turns, which blocks it makes, what it yields -/
structure Stp where
  D : Hp
  W : Ch
  lo : Nat
  hi : Nat
  v : AV
structure Turn (h : H) (s : Stp) (h' : H) : Prop where
  sub : ∀ b x, s.D b = some x → h.get b = some x
  get : h'.get = app s.W h.get
  lo : s.lo = h.next
  hi : s.hi = h'.next
  le : h.next ≤ h'.next
  clk : h.clk = h'.clk
  ts : ∀ b x, s.W b = some (some x) → x.ts = h.clk
  dom : ∀ b, s.W b ≠ none → s.D b ≠ none ∨ (s.lo ≤ b ∧ b < s.hi)
def Yld (x : Value) (y : Next) : Prop := y = .value x ∨ (y = .skip ∧ x = undef)
def Exec (X : Cx) (n : Nat) (fr : Fr) (o : Oper) (s : Stp) : Prop :=
  ∀ (σ : Sig) (G : Hp) (a : Act) (w : World), Fit X σ n fr a (Lop o) → Ok X σ G w → Ext G s.D → (∀ b, s.lo ≤ b → b < s.hi → σ.bk b = none) →
    ∃ x y w' τ, (execOp a.eval o).run X.P w = .ok y w' ∧ Yld x y ∧ V τ s.v x ∧ Post X σ G w s.lo s.hi τ (app s.W G) w'
/-- what an operation's reckoning says -/
def Says (X : Cx) (n : Nat) (fr : Fr) (o : Oper) (h : H) (k : Kt) : Prop := ∃ s h', Turn h s h' ∧ k s.v h' = true ∧ Exec X n fr o s

theorem Says.pure {o : Oper} {h : H} {k : Kt} (hp : ∃ v, k v h = true ∧ Pure X n fr o v) : Says X n fr o h k := by
  obtain ⟨v, hk, hp⟩ := hp
  refine ⟨⟨fun _ => none, noCh, h.next, h.next, v⟩, h, ⟨fun _ _ h => (by cases h), (by rw [app_no]), rfl, rfl, Nat.le_refl _, rfl, fun _ _ h => (by cases h), fun _ h => absurd rfl h⟩, hk, ?_⟩
  intro σ G a w hf ho _ _
  obtain ⟨x, h1, h2⟩ := hp σ a w hf
  exact ⟨x, _, w, σ, h1, .inl rfl, h2, Post.refl ho _⟩

/-! ### steps whose reach is known -/
/-- what an operation's reckoning says, and where it reads; whether it may make a block -/
def SaysF (X : Cx) (n : Nat) (fr : Fr) (o : Oper) (h : H) (k : Kt) (S : List Nat) (nw : Bool) : Prop := ∃ s h', Turn h s h' ∧ k s.v h' = true ∧ Exec X n fr o s ∧ (∀ b, s.D b ≠ none → b ∈ S) ∧ (∀ b, s.W b ≠ none → s.lo ≤ b ∧ nw = true)
theorem SaysF.says {o : Oper} {h : H} {k : Kt} {S : List Nat} {nw : Bool} (x : SaysF X n fr o h k S nw) : Says X n fr o h k :=
  let ⟨s, h', t, hk, he, _⟩ := x; ⟨s, h', t, hk, he⟩
theorem SaysF.pure {o : Oper} {h : H} {k : Kt} {S : List Nat} {nw : Bool} (hp : ∃ v, k v h = true ∧ Pure X n fr o v) : SaysF X n fr o h k S nw := by
  obtain ⟨v, hk, hp⟩ := hp
  refine ⟨⟨fun _ => none, noCh, h.next, h.next, v⟩, h, ⟨fun _ _ h => (by cases h), (by rw [app_no]), rfl, rfl, Nat.le_refl _, rfl, fun _ _ h => (by cases h), fun _ h => absurd rfl h⟩, hk, ?_, fun _ h => absurd rfl h, fun _ h => absurd rfl h⟩
  intro σ G a w hf ho _ _
  obtain ⟨x, h1, h2⟩ := hp σ a w hf
  exact ⟨x, _, w, σ, h1, .inl rfl, h2, Post.refl ho _⟩

/-! ### memory for the kernel -/
noncomputable def getB (h : H) (b : Nat) (k : Bl → Bool) : Bool := T.getK h.t b k false
theorem getB_inv {h : H} {b : Nat} {k : Bl → Bool} (hk : getB h b k = true) : ∃ x, h.get b = some x ∧ k x = true := by
  unfold getB at hk
  rw [T.getK_eq] at hk
  unfold H.get
  split at hk
  · exact ⟨_, by assumption, hk⟩
  · cases hk
noncomputable def setB (h : H) (b : Nat) (x : Option Bl) (k : H → Bool) : Bool := H.rec (motive := fun _ => Bool) (fun t next clk => T.setK x 40 t b fun t => k ⟨t, next, clk⟩) h
theorem setB_inv {h : H} {b : Nat} {x : Option Bl} {k : H → Bool} (hk : setB h b x k = true) : ∃ h', h'.get = app (one b x) h.get ∧ h'.next = h.next ∧ h'.clk = h.clk ∧ k h' = true := by
  cases h with
  | mk t next clk =>
    have hk : T.setK x 40 t b (fun t => k ⟨t, next, clk⟩) = true := hk
    obtain ⟨t', h1, h2⟩ := T.setK_inv _ _ _ _ _ hk
    exact ⟨⟨t', next, clk⟩, by funext c; rw [app_one]; exact h1 c, rfl, rfl, h2⟩
/-- a new block -/
noncomputable def newB (h : H) (c : Blk) (k : Nat → H → Bool) : Bool := H.rec (motive := fun _ => Bool) (fun t next clk => T.setK (some ⟨clk, false, c⟩) 40 t next fun t => fN (Nat.succ next) fun m => k next ⟨t, m, clk⟩) h
theorem newB_inv {h : H} {c : Blk} {k : Nat → H → Bool} (hk : newB h c k = true) : ∃ h', h'.get = app (one h.next (some ⟨h.clk, false, c⟩)) h.get ∧ h'.next = h.next + 1 ∧ h'.clk = h.clk ∧ k h.next h' = true := by
  cases h with
  | mk t next clk =>
    have hk : T.setK (some ⟨clk, false, c⟩) 40 t next (fun t => fN (Nat.succ next) fun m => k next ⟨t, m, clk⟩) = true := hk
    obtain ⟨t', h1, h2⟩ := T.setK_inv _ _ _ _ _ hk
    rw [fN_eq] at h2
    exact ⟨⟨t', Nat.succ next, clk⟩, by funext c; rw [app_one]; exact h1 c, rfl, rfl, h2⟩
/-- a block is turned -/
noncomputable def putB (h : H) (b : Nat) (c : Blk) (k : H → Bool) : Bool := H.rec (motive := fun _ => Bool) (fun t next clk => T.setK (some ⟨clk, false, c⟩) 40 t b fun t => k ⟨t, next, clk⟩) h
theorem putB_inv {h : H} {b : Nat} {c : Blk} {k : H → Bool} (hk : putB h b c k = true) : ∃ h', h'.get = app (one b (some ⟨h.clk, false, c⟩)) h.get ∧ h'.next = h.next ∧ h'.clk = h.clk ∧ k h' = true := by
  cases h with
  | mk t next clk =>
    have hk : T.setK (some ⟨clk, false, c⟩) 40 t b (fun t => k ⟨t, next, clk⟩) = true := hk
    obtain ⟨t', h1, h2⟩ := T.setK_inv _ _ _ _ _ hk
    exact ⟨⟨t', next, clk⟩, by funext c; rw [app_one]; exact h1 c, rfl, rfl, h2⟩

/-- the part of a memory that lies under the given numbers -/
def rst (h : H) (S : List Nat) : Hp := fun c => if c ∈ S then h.get c else none
theorem rst_sub {h : H} {S : List Nat} : ∀ c y, rst h S c = some y → h.get c = some y := fun c y hy => by
  simp only [rst] at hy; split at hy
  · exact hy
  · cases hy
theorem rst_ext {G : Hp} {h : H} {S : List Nat} {b : Nat} {x : Bl} (he : Ext G (rst h S)) (hx : h.get b = some x) (hb : b ∈ S) : G b = some x := he b x (by simp [rst, hb, hx])

/-- an operation that makes one block -/
theorem Says.allocD {o : Oper} {h : H} {k : Kt} {c : Blk} {v : Nat → AV} (D : Hp) (hD : ∀ b x, D b = some x → h.get b = some x) (hk : newB h c (fun b h' => k (v b) h') = true)
    (hx : ∀ (σ : Sig) (G : Hp) (a : Act) (w : World), Fit X σ n fr a (Lop o) → Ok X σ G w → Ext G D → σ.bk h.next = none →
      ∃ (x : Value) (y : Next) (w₁ : World) (ob : Obj) (m : Nat), w₁.heap = w.heap ∧ w₁.os = w.os ∧ w₁.tape = w.tape ∧ w₁.output = w.output ∧ (execOp a.eval o).run X.P w = .ok y (w₁.alloc ob) ∧ Yld x y ∧
        (∀ τ, τ = σ.set h.next ⟨w.heap.size, 0, m⟩ → σ.le τ → τ.bk h.next = some ⟨w.heap.size, 0, m⟩ → V τ (v h.next) x ∧ (∀ w' : World, w'.heap[w.heap.size]? = some ob → RelC X τ w' ⟨w.heap.size, 0, m⟩ c))) : Says X n fr o h k := by
  obtain ⟨h', h1, h2, h3, hk⟩ := newB_inv hk
  refine ⟨⟨D, one h.next (some ⟨h.clk, false, c⟩), h.next, h.next + 1, v h.next⟩, h', ⟨hD, h1, rfl, h2.symm, by omega, h3.symm, ?_, ?_⟩, hk, ?_⟩
  · intro b x hx
    simp only [one] at hx
    split at hx
    · cases hx; rfl
    · cases hx
  · intro b hb
    simp only [one, ne_eq, ite_eq_right_iff, reduceCtorEq, imp_false, Decidable.not_not] at hb
    subst hb
    exact .inr ⟨Nat.le_refl _, Nat.lt_succ_self _⟩
  · intro σ G a w hf ho he hfr
    have hn : σ.bk h.next = none := hfr _ (Nat.le_refl _) (Nat.lt_succ_self _)
    obtain ⟨x, y, w₁, ob, m, e1, e2, e3, e4, hr, hy, hrel⟩ := hx σ G a w hf ho he hn
    obtain ⟨hV, hR⟩ := hrel _ rfl (Sig.set_le hn) Sig.set_same
    have p1 := Post.heap ho e1 e2 e3 e4 h.next
    have hsz : w₁.heap.size = w.heap.size := by rw [e1]
    have p2 : Post X σ G w₁ h.next (h.next + 1) (σ.set h.next ⟨w₁.heap.size, 0, m⟩) (app (one h.next (some ⟨h.clk, false, c⟩)) G) (w₁.alloc ob) :=
      Post.alloc p1.ok hn rfl (by rw [hsz]; exact hR _ (by rw [← hsz]; exact heap_alloc_new' w₁ ob))
    rw [hsz] at p2
    exact ⟨x, y, _, _, hr, hy, hV, p1.trans p2 (Nat.le_refl _) (Nat.le_succ _)⟩
theorem Says.alloc {o : Oper} {h : H} {k : Kt} {c : Blk} {v : Nat → AV} (hk : newB h c (fun b h' => k (v b) h') = true)
    (hx : ∀ (σ : Sig) (G : Hp) (a : Act) (w : World), Fit X σ n fr a (Lop o) → Ok X σ G w → σ.bk h.next = none →
      ∃ (x : Value) (y : Next) (w₁ : World) (ob : Obj) (m : Nat), w₁.heap = w.heap ∧ w₁.os = w.os ∧ w₁.tape = w.tape ∧ w₁.output = w.output ∧ (execOp a.eval o).run X.P w = .ok y (w₁.alloc ob) ∧ Yld x y ∧
        (∀ τ, τ = σ.set h.next ⟨w.heap.size, 0, m⟩ → σ.le τ → τ.bk h.next = some ⟨w.heap.size, 0, m⟩ → V τ (v h.next) x ∧ (∀ w' : World, w'.heap[w.heap.size]? = some ob → RelC X τ w' ⟨w.heap.size, 0, m⟩ c))) : Says X n fr o h k :=
  Says.allocD (fun _ => none) (fun _ _ h => (by cases h)) hk fun σ G a w hf ho _ hn => hx σ G a w hf ho hn

theorem SaysF.alloc {o : Oper} {h : H} {k : Kt} {c : Blk} {v : Nat → AV} {S : List Nat} (hk : newB h c (fun b h' => k (v b) h') = true)
    (hx : ∀ (σ : Sig) (G : Hp) (a : Act) (w : World), Fit X σ n fr a (Lop o) → Ok X σ G w → σ.bk h.next = none →
      ∃ (x : Value) (y : Next) (w₁ : World) (ob : Obj) (m : Nat), w₁.heap = w.heap ∧ w₁.os = w.os ∧ w₁.tape = w.tape ∧ w₁.output = w.output ∧ (execOp a.eval o).run X.P w = .ok y (w₁.alloc ob) ∧ Yld x y ∧
        (∀ τ, τ = σ.set h.next ⟨w.heap.size, 0, m⟩ → σ.le τ → τ.bk h.next = some ⟨w.heap.size, 0, m⟩ → V τ (v h.next) x ∧ (∀ w' : World, w'.heap[w.heap.size]? = some ob → RelC X τ w' ⟨w.heap.size, 0, m⟩ c))) : SaysF X n fr o h k S true := by
  obtain ⟨h', h1, h2, h3, hk⟩ := newB_inv hk
  refine ⟨⟨fun _ => none, one h.next (some ⟨h.clk, false, c⟩), h.next, h.next + 1, v h.next⟩, h', ⟨fun _ _ h => (by cases h), h1, rfl, h2.symm, by omega, h3.symm, ?_, ?_⟩, hk, ?_, fun _ h => absurd rfl h, ?_⟩
  · intro b x hx
    simp only [one] at hx
    split at hx
    · cases hx; rfl
    · cases hx
  · intro b hb
    simp only [one, ne_eq, ite_eq_right_iff, reduceCtorEq, imp_false, Decidable.not_not] at hb
    subst hb
    exact .inr ⟨Nat.le_refl _, Nat.lt_succ_self _⟩
  · intro σ G a w hf ho he hfr
    have hn : σ.bk h.next = none := hfr _ (Nat.le_refl _) (Nat.lt_succ_self _)
    obtain ⟨x, y, w₁, ob, m, e1, e2, e3, e4, hr, hy, hrel⟩ := hx σ G a w hf ho hn
    obtain ⟨hV, hR⟩ := hrel _ rfl (Sig.set_le hn) Sig.set_same
    have p1 := Post.heap ho e1 e2 e3 e4 h.next
    have hsz : w₁.heap.size = w.heap.size := by rw [e1]
    have p2 : Post X σ G w₁ h.next (h.next + 1) (σ.set h.next ⟨w₁.heap.size, 0, m⟩) (app (one h.next (some ⟨h.clk, false, c⟩)) G) (w₁.alloc ob) :=
      Post.alloc p1.ok hn rfl (by rw [hsz]; exact hR _ (by rw [← hsz]; exact heap_alloc_new' w₁ ob))
    rw [hsz] at p2
    exact ⟨x, y, _, _, hr, hy, hV, p1.trans p2 (Nat.le_refl _) (Nat.le_succ _)⟩
  · intro b hb
    simp only [one, ne_eq, ite_eq_right_iff, reduceCtorEq, imp_false, Decidable.not_not] at hb
    subst hb
    exact ⟨Nat.le_refl _, rfl⟩

/-- a block is given up, and the same memory is another block from now on -/
theorem Post.move {G : Hp} {b id : Nat} {x bl : Bl} {B B' : Bk} {w' : World} (h : Ok X σ G w) (hid : σ.bk id = none) (hx : G b = some x) (hxr : x.ro = false) (hro : bl.ro = false) (hB : σ.bk b = some B) (hBB : B'.r = B.r)
    (hr : RelC X (σ.set id B') w' B' bl.c) (hsz : w'.heap.size = w.heap.size) (hoth : ∀ r, r ≠ B.r → w'.heap[r]? = w.heap[r]?) (h1 : w'.os = w.os) (h2 : w'.tape = w.tape) (h3 : w'.output = w.output) :
    Post X σ G w id (id + 1) (σ.set id B') (app (seqC (one b none) (one id (some bl))) G) w' := by
  have hle : σ.le (σ.set id B') := Sig.set_le hid
  have hb : b ≠ id := fun e => by rw [e, hid] at hB; cases hB
  have val : ∀ c, app (seqC (one b none) (one id (some bl))) G c = if c = id then some bl else if c = b then none else G c := fun c => by
    rw [app_seqC, app_one, app_one]
  have old : ∀ c y, (if c = id then some bl else if c = b then none else G c) = some y → c ≠ id → c ≠ b ∧ G c = some y := fun c y hy hc => by
    rw [if_neg hc] at hy
    split at hy
    · cases hy
    · exact ⟨by assumption, hy⟩
  refine ⟨hle, fun c hc => Sig.set_ne (by omega), ⟨fun c y hy => ?_, ?_, h.sane.mono hle⟩, h1, h2, h3, by omega, fun r _ hn => hoth r fun e => hn ⟨b, x, B, hx, hxr, hB, e.symm⟩, ?_⟩
  · rw [val] at hy
    by_cases e : c = id
    · subst e
      rw [if_pos rfl] at hy; cases hy
      exact ⟨B', Sig.set_same, hr⟩
    · obtain ⟨e1, e2⟩ := old c y hy e
      obtain ⟨C, h4, h5⟩ := h.rel c y e2
      exact ⟨C, hle.1 _ _ h4, (h5.mono hle).turn (hoth _ (h.sep c b C B y x e1 e2 hx h4 hB))⟩
  · intro c c' C C' y y' hne hy hy' hC hC'
    rw [val] at hy hy'
    by_cases e : c = id
    · subst e
      have e' : c' ≠ c := fun h => hne h.symm
      obtain ⟨e1, e2⟩ := old c' y' hy' e'
      rw [Sig.set_same] at hC; cases hC
      rw [Sig.set_ne e'] at hC'
      rw [hBB]
      exact h.sep b c' B C' x y' (Ne.symm e1) hx e2 hB hC'
    · obtain ⟨e1, e2⟩ := old c y hy e
      rw [Sig.set_ne e] at hC
      by_cases e' : c' = id
      · subst e'
        rw [Sig.set_same] at hC'; cases hC'
        rw [hBB]
        exact h.sep c b C B y x e1 e2 hx hC hB
      · obtain ⟨e3, e4⟩ := old c' y' hy' e'
        rw [Sig.set_ne e'] at hC'
        exact h.sep c c' C C' y y' hne e2 e4 hC hC'
  · rintro r ⟨c, y, C, hy, hyr, hC, rfl⟩
    rw [val] at hy
    by_cases e : c = id
    · subst e
      rw [Sig.set_same] at hC; cases hC
      exact .inl ⟨b, x, B, hx, hxr, hB, hBB.symm⟩
    · obtain ⟨e1, e2⟩ := old c y hy e
      rw [Sig.set_ne e] at hC
      exact .inl ⟨c, y, C, e2, hyr, hC, rfl⟩

end Go.Ev
end

section
set_option linter.unusedVariables false
set_option linter.unusedSimpArgs false
namespace Go.Ev

variable {X : Cx} {σ : Sig} {n : Nat} {fr : Fr} {a : Act} {w : World} {L : Tmp → Prop}

/-! ### ways of showing what an operation says -/
def dOne (b : Nat) (x : Bl) : Hp := fun c => if c = b then some x else none
theorem dOne_ext {G : Hp} {b : Nat} {x : Bl} (h : Ext G (dOne b x)) : G b = some x := h b x (by simp [dOne])
theorem dOne_sub {h : H} {b : Nat} {x : Bl} (hx : h.get b = some x) : ∀ c y, dOne b x c = some y → h.get c = some y := fun c y hy => by
  simp only [dOne] at hy; split at hy
  · rename_i e; subst e; cases hy; exact hx
  · cases hy

theorem Says.read {o : Oper} {h : H} {k : Kt} {b : Nat} {x : Bl} {v : AV} (hx : h.get b = some x) (hk : k v h = true)
    (hr : ∀ (σ : Sig) (a : Act) (w : World) (B : Bk), Fit X σ n fr a (Lop o) → σ.bk b = some B → RelC X σ w B x.c → ∃ u, (execOp a.eval o).run X.P w = .ok (.value u) w ∧ V σ v u) : Says X n fr o h k := by
  refine ⟨⟨dOne b x, noCh, h.next, h.next, v⟩, h, ⟨dOne_sub hx, (by rw [app_no]), rfl, rfl, Nat.le_refl _, rfl, fun _ _ h => (by cases h), fun _ h => absurd rfl h⟩, hk, ?_⟩
  intro σ G a w hf ho he _
  obtain ⟨B, h1, h2⟩ := ho.rel b x (dOne_ext he)
  obtain ⟨u, h3, h4⟩ := hr σ a w B hf h1 h2
  exact ⟨u, _, w, σ, h3, .inl rfl, h4, Post.refl ho _⟩

theorem SaysF.read {o : Oper} {h : H} {k : Kt} {b : Nat} {x : Bl} {v : AV} {S : List Nat} {nw : Bool} (hS : b ∈ S) (hx : h.get b = some x) (hk : k v h = true)
    (hr : ∀ (σ : Sig) (a : Act) (w : World) (B : Bk), Fit X σ n fr a (Lop o) → σ.bk b = some B → RelC X σ w B x.c → ∃ u, (execOp a.eval o).run X.P w = .ok (.value u) w ∧ V σ v u) : SaysF X n fr o h k S nw := by
  refine ⟨⟨dOne b x, noCh, h.next, h.next, v⟩, h, ⟨dOne_sub hx, (by rw [app_no]), rfl, rfl, Nat.le_refl _, rfl, fun _ _ h => (by cases h), fun _ h => absurd rfl h⟩, hk, ?_, fun c hc => ?_, fun _ h => absurd rfl h⟩
  · intro σ G a w hf ho he _
    obtain ⟨B, h1, h2⟩ := ho.rel b x (dOne_ext he)
    obtain ⟨u, h3, h4⟩ := hr σ a w B hf h1 h2
    exact ⟨u, _, w, σ, h3, .inl rfl, h4, Post.refl ho _⟩
  · simp only [dOne, ne_eq, ite_eq_right_iff, reduceCtorEq, imp_false, Decidable.not_not] at hc
    subst hc; exact hS

/-- the blocks that a value lies in -/
def bkOf : AV → List Nat
  | .ptr b _ => [b]
  | .sl b _ _ _ _ => [b]
  | .map b => [b]
  | _ => []

/-- a world that has turned at one block alone -/
structure Only (r : Nat) (w w' : World) : Prop where
  size : w'.heap.size = w.heap.size
  oth : ∀ q, q ≠ r → w'.heap[q]? = w.heap[q]?
  os : w'.os = w.os
  tape : w'.tape = w.tape
  output : w'.output = w.output
theorem Only.refl (r : Nat) (w : World) : Only r w w := ⟨rfl, fun _ _ => rfl, rfl, rfl, rfl⟩
theorem Only.trans {r : Nat} {w w' w'' : World} (h : Only r w w') (k : Only r w' w'') : Only r w w'' :=
  ⟨k.size.trans h.size, fun q hq => (k.oth q hq).trans (h.oth q hq), k.os.trans h.os, k.tape.trans h.tape, k.output.trans h.output⟩

theorem Says.write {o : Oper} {h : H} {k : Kt} {b : Nat} {x : Bl} {c : Blk} {v : AV} {D : Hp} (hD : ∀ b x, D b = some x → h.get b = some x) (hDx : D b = some x) (hro : x.ro = false) (hk : putB h b c (fun h' => k v h') = true)
    (hr : ∀ (σ : Sig) (G : Hp) (a : Act) (w : World) (B : Bk), Fit X σ n fr a (Lop o) → Ok X σ G w → Ext G D → σ.bk b = some B → RelC X σ w B x.c →
      ∃ u y w', (execOp a.eval o).run X.P w = .ok y w' ∧ Yld u y ∧ V σ v u ∧ RelC X σ w' B c ∧ Only B.r w w') : Says X n fr o h k := by
  obtain ⟨h', h1, h2, h3, hk⟩ := putB_inv hk
  refine ⟨⟨D, one b (some ⟨h.clk, false, c⟩), h.next, h.next, v⟩, h', ⟨hD, h1, rfl, h2.symm, by omega, h3.symm, ?_, ?_⟩, hk, ?_⟩
  · intro d y hy
    simp only [one] at hy
    split at hy
    · cases hy; rfl
    · cases hy
  · intro d hd
    simp only [one, ne_eq, ite_eq_right_iff, reduceCtorEq, imp_false, Decidable.not_not] at hd
    subst hd
    exact .inl (by show D d ≠ none; rw [hDx]; simp)
  · intro σ G a w hf ho he _
    have hG : G b = some x := he b x hDx
    obtain ⟨B, h4, h5⟩ := ho.rel b x hG
    obtain ⟨u, y, w', h6, h7, h8, h9, h10⟩ := hr σ G a w B hf ho he h4 h5
    exact ⟨u, y, w', σ, h6, h7, h8, Post.turn ho hG hro rfl h4 h9 h10.size h10.oth h10.os h10.tape h10.output _⟩

/-! ### cells -/
theorem rel_cell {B : Bk} {cs : AV} {el fz : Nat} {p z : Bool} (h : RelC X σ w B (.cells cs el fz p z)) {o : Nat} {v : AV} (hv : cs.nth o = some v) :
    ∃ u, w.cell? ⟨B.r, B.o + o, none⟩ = some u ∧ V σ v u := by
  obtain ⟨C, fz', ⟨_, h1, _⟩, h2, ⟨vs, h3, h4, h5⟩, h6⟩ := h
  obtain ⟨u, hu, hV⟩ := h3.nth hv
  refine ⟨u, ?_, hV⟩
  have := h5 o u hu
  simp [World.cell?, h1, this]
theorem rel_cells {B : Bk} {cs : AV} {el fz : Nat} {p z : Bool} (h : RelC X σ w B (.cells cs el fz p z)) {o m : Nat} (h1 : o ≤ cs.len) (h2 : m ≤ (cs.drop o).len) :
    ∃ us : List Value, us.length = m ∧ VL σ ((cs.drop o).take m) us ∧ ∀ j u, us[j]? = some u → w.cell? ((⟨B.r, B.o + o, none⟩ : Addr).add j) = some u := by
  obtain ⟨C, fz', ⟨_, h3, _⟩, h4, ⟨vs, h5, h6, h7⟩, h8⟩ := h
  have hV := VL.take (VL.drop h5 h1) h2
  refine ⟨_, ?_, hV, fun j u hu => ?_⟩
  · have e := (VL.drop h5 h1).len
    rw [List.length_take, e]; omega
  · rw [List.getElem?_take] at hu
    split at hu
    · rw [List.getElem?_drop] at hu
      have := h7 (o + j) u hu
      simp [World.cell?, h3, addr_add, Nat.add_assoc, this]
    · cases hu

noncomputable def onPtr (a : AV) (k : Nat → Nat → Bool) : Bool := match a with | .ptr b o => k b o | _ => false
theorem onPtr_inv {a : AV} {k : Nat → Nat → Bool} (h : onPtr a k = true) : ∃ b o, a = .ptr b o ∧ k b o = true := by
  unfold onPtr at h
  split at h
  · exact ⟨_, _, rfl, h⟩
  · cases h
noncomputable def onCells (c : Blk) (k : AV → Nat → Nat → Bool → Bool → Bool) : Bool := match c with | .cells cs el fz p z => k cs el fz p z | _ => false
theorem onCells_inv {c : Blk} {k : AV → Nat → Nat → Bool → Bool → Bool} (h : onCells c k = true) : ∃ cs el fz p z, c = .cells cs el fz p z ∧ k cs el fz p z = true := by
  unfold onCells at h
  split at h
  · exact ⟨_, _, _, _, _, rfl, h⟩
  · cases h

noncomputable def opLd1 (x : MO) (fr : Fr) (h : H) (k : Kt) : Bool := x.getK fr fun a => onPtr a fun b o => getB h b fun bl => onCells bl.c fun cs _ _ _ _ => AV.nthK o cs fun v => k v h
theorem opLd1_saysF {o : Oper} {t : TypeId} {d : TypeDesc} {x : Operand} {m : MO} {h : H} {k : Kt} (ho : o.op = .load t x) (ht : X.E.und t = some d) (hag : isAggD d = false) (hm : mo X.ng n x = some m)
    (hk : opLd1 m fr h k = true) : SaysF X n fr o h k (bkOf (m.val fr)) false := by
  unfold opLd1 at hk
  rw [MO.getK_eq] at hk
  obtain ⟨b, ob, hs, hk⟩ := onPtr_inv hk
  obtain ⟨bl, hb, hk⟩ := getB_inv hk
  obtain ⟨cs, el, fz, p, z, hc, hk⟩ := onCells_inv hk
  obtain ⟨v, hv, hk⟩ := AV.nthK_inv hk
  refine SaysF.read (by rw [hs]; exact List.mem_cons_self) hb hk fun σ a w B hf hB hr => ?_
  rw [hc] at hr
  have hx := mo_V hm hf (lop (by rw [ho]; simp [Op.operands]))
  rw [hs] at hx
  obtain ⟨B', hB', hxx⟩ := hx.ptr_inv
  rw [hB] at hB'; cases hB'
  obtain ⟨u, hu, hV⟩ := rel_cell hr hv
  refine ⟨u, ?_, hV⟩
  simp only [execOp, ho]
  refine run_exec_value ?_
  simp only [Instr.loadAt, hxx, Instr.sureAddr, Sem.run_bind, Sem.run_pure, Result.andThen_ok, loadVar, run_isAgg ht, hag, Bool.false_eq_true, if_false, run_load, hu]
noncomputable def opLdn (x : MO) (m : Nat) (fr : Fr) (h : H) (k : Kt) : Bool := x.getK fr fun a => onPtr a fun b o => getB h b fun bl => onCells bl.c fun cs _ _ _ _ => rdropK o cs fun l => rtakeK m l fun l => k (.agg l) h
theorem opLdn_saysF {o : Oper} {t : TypeId} {d : TypeDesc} {i : TypeInfo} {x : Operand} {m : MO} {h : H} {k : Kt} (ho : o.op = .load t x) (ht : X.E.und t = some d) (hag : isAggD d = true) (hi : X.E.ty t = some i) (hm : mo X.ng n x = some m)
    (hk : opLdn m i.size fr h k = true) : SaysF X n fr o h k (bkOf (m.val fr)) false := by
  unfold opLdn at hk
  rw [MO.getK_eq] at hk
  obtain ⟨b, ob, hs, hk⟩ := onPtr_inv hk
  obtain ⟨bl, hb, hk⟩ := getB_inv hk
  obtain ⟨cs, el, fz, p, z, hc, hk⟩ := onCells_inv hk
  obtain ⟨h1, hk⟩ := rdropK_inv hk
  obtain ⟨h2, hk⟩ := rtakeK_inv hk
  refine SaysF.read (by rw [hs]; exact List.mem_cons_self) hb hk fun σ a w B hf hB hr => ?_
  rw [hc] at hr
  have hx := mo_V hm hf (lop (by rw [ho]; simp [Op.operands]))
  rw [hs] at hx
  obtain ⟨B', hB', hxx⟩ := hx.ptr_inv
  rw [hB] at hB'; cases hB'
  obtain ⟨us, hl, hV, hu⟩ := rel_cells hr h1 h2
  refine ⟨.agg us.toArray, ?_, _, rfl, hV⟩
  simp only [execOp, ho]
  refine run_exec_value ?_
  have hload := run_loadCells_list (P := X.P) w (⟨B.r, B.o + ob, none⟩ : Addr) us hu
  rw [hl] at hload
  simp only [Instr.loadAt, hxx, Instr.sureAddr, Sem.run_bind, Sem.run_pure, Result.andThen_ok, loadVar, run_isAgg ht, hag, if_true, run_size hi, hload]

/-! ### stores -/
theorem setCell_heap {r k : Nat} {C : Array Value} {el : TypeId} {f : Nat × Nat} (h : w.heap[r]? = some (.cells C el f)) (v : Value) :
    (w.setCell ⟨r, k, none⟩ v).heap[r]? = some (.cells (C.setIfInBounds k v) el f) ∧ Only r w (w.setCell ⟨r, k, none⟩ v) := by
  refine ⟨?_, by simp [World.setCell], fun q hq => ?_, rfl, rfl, rfl⟩
  · simp only [World.setCell]
    rw [Array.getElem?_modify, if_pos rfl, h]
    rfl
  · simp only [World.setCell]
    rw [Array.getElem?_modify, if_neg (Ne.symm hq)]
theorem run_storeCells' {r o : Nat} {el : TypeId} {f : Nat × Nat} : ∀ (vs : List Value) (i : Nat) (C : Array Value) (w : World), w.heap[r]? = some (.cells C el f) → o + i + vs.length ≤ C.size →
    (∀ j, j < vs.length → ¬ (f.1 ≤ o + i + j ∧ o + i + j < f.2)) → (∀ v ∈ vs, v.oneCell' = true) →
    ∃ w' C', (storeCells ⟨r, o, none⟩ vs i).run X.P w = .ok () w' ∧ w'.heap[r]? = some (.cells C' el f) ∧ C'.size = C.size ∧
      (∀ m : Nat, C'[m]? = if o + i ≤ m ∧ m < o + i + vs.length then vs[m - (o + i)]? else C[m]?) ∧ Only r w w'
  | [], i, C, w, hw, _, _, _ => ⟨w, C, rfl, hw, rfl, fun m => by rw [if_neg (by simp only [List.length_nil]; omega)], Only.refl _ _⟩
  | v :: vs, i, C, w, hw, hl, hf, h1 => by
    simp only [List.length_cons] at hl hf
    obtain ⟨g1, g2⟩ := setCell_heap (k := o + i) hw v
    obtain ⟨w', C', r1, r2, r3, r4, r5⟩ := run_storeCells' (o := o) vs (i + 1) _ _ g1 (by simp; omega) (fun j hj => by have := hf (j + 1) (by omega); rwa [show o + i + (j + 1) = o + (i + 1) + j by omega] at this) (fun u hu => h1 u (List.mem_cons_of_mem _ hu))
    refine ⟨w', C', ?_, r2, by simpa using r3, fun m => ?_, g2.trans r5⟩
    · have hcell : w.cell? ⟨r, o + i, none⟩ = some (C[o + i]'(by omega)) := by simp [World.cell?, hw]
      have hfro : w.frozen? ⟨r, o + i, none⟩ = false := by
        have := hf 0 (by omega)
        simp only [World.frozen?, hw]
        simp only [Nat.add_zero] at this
        simp only [Bool.and_eq_false_iff, decide_eq_false_iff_not]
        by_cases e : f.1 ≤ o + i
        · exact .inr fun h => this ⟨e, h⟩
        · exact .inl e
      simp only [storeCells, Sem.run_bind, addr_add]
      rw [run_store X.P w _ v _ (h1 v List.mem_cons_self), hcell]
      simp only [hfro, Bool.false_eq_true, if_false, Result.andThen_ok]
      exact r1
    · rw [r4 m]
      simp only [List.length_cons]
      by_cases e1 : o + (i + 1) ≤ m ∧ m < o + (i + 1) + vs.length
      · rw [if_pos e1, if_pos (by omega)]
        have : m - (o + i) = (m - (o + (i + 1))) + 1 := by omega
        rw [this]; simp
      · rw [if_neg e1, Array.getElem?_setIfInBounds]
        by_cases e2 : o + i = m
        · subst e2
          rw [if_pos rfl, if_pos (by omega), if_pos (by omega)]; simp
        · rw [if_neg e2, if_neg (by omega)]

/-- values of one cell each -/
noncomputable def isOne (a : AV) : Bool := AV.casesOn (motive := fun _ => Bool) a false (fun _ => true) (fun _ => true) (fun _ _ => true) (fun _ => true) true (fun _ _ => true) true (fun _ _ _ _ _ => true) true (fun _ => true) (fun _ _ _ => true) (fun _ => true) true (fun _ _ => true) true (fun _ => false) (fun _ => false) false (fun _ _ => false)
theorem isOne_V {a : AV} (h : isOne a = true) {v : Value} (hv : V σ a v) : v.oneCell' = true := by
  cases a <;> first | (cases h; done) | skip
  · rename_i i
    obtain ⟨q, z, e⟩ := σ.sym.val_int i
    have hv : v = σ.sym.val i := hv
    rw [hv, e]; rfl
  · cases hv; rfl
  · cases hv; rfl
  · obtain ⟨t, rfl, _⟩ := hv.str_inv; rfl
  · cases hv; rfl
  · obtain ⟨B, _, rfl⟩ := hv.ptr_inv; rfl
  · cases hv; rfl
  · obtain ⟨B, c, _, rfl, _⟩ := (hv : ∃ x c, _); rfl
  · cases hv; rfl
  · obtain ⟨B, _, rfl⟩ := (hv : ∃ x, _); rfl
  · obtain ⟨p, q, rfl, _⟩ := (hv : ∃ p q, _); rfl
  · obtain ⟨B, _, rfl⟩ := (hv : ∃ x, _); rfl
  · cases hv; rfl
  · obtain ⟨u, rfl, _⟩ := (hv : ∃ u, _); rfl
  · cases hv; rfl
noncomputable def onesK (a : AV) (k : Bool) : Bool :=
  AV.rec (motive := fun _ => Bool) false (fun _ => false) (fun _ => false) (fun _ _ => false) (fun _ => false) false (fun _ _ => false) false (fun _ _ _ _ _ => false) false (fun _ => false) (fun _ _ _ _ _ => false) (fun _ => false) false (fun _ _ _ => false) false (fun _ _ => false) (fun _ _ => false) k (fun x _ _ ih => chk (isOne x) ih) a
theorem onesK_inv {k : Bool} : ∀ {a : AV}, onesK a k = true → k = true ∧ ∀ {σ : Sig} {vs : List Value}, VL σ a vs → ∀ v ∈ vs, v.oneCell' = true := by
  intro a
  induction a with
  | nil => exact fun h => ⟨h, fun hv v hm => by rw [hv.nil_inv] at hm; cases hm⟩
  | cons x l _ ih =>
    intro h
    obtain ⟨h1, h2⟩ := chk_eq h
    obtain ⟨h3, h4⟩ := ih h2
    refine ⟨h3, fun hv v hm => ?_⟩
    obtain ⟨u, us, rfl, g1, g2⟩ := hv.cons_inv
    rcases List.mem_cons.1 hm with rfl | hm
    · exact isOne_V h1 g1
    · exact h4 g2 v hm
  | _ => intro h; cases h

/-- cells laid over a block's -/
theorem rel_splice {B : Bk} {row cs : AV} {el fz : Nat} {p z : Bool} {o : Nat} {us : List Value} (h : RelC X σ w B (.cells row el fz p z)) (hc : VL σ cs us) (hle : o + cs.len ≤ row.len) (hfz : fz ≤ o) (h1 : ∀ v ∈ us, v.oneCell' = true) :
    ∃ w', (storeCells ⟨B.r, B.o + o, none⟩ us).run X.P w = .ok () w' ∧ RelC X σ w' B (.cells (AV.splice o cs row) el fz p z) ∧ Only B.r w w' := by
  obtain ⟨C, f, ⟨q, h3, hq⟩, h4, ⟨vs, h5, h6, h7⟩, h8, h9⟩ := h
  have hul := hc.len
  have hvl := h5.len
  obtain ⟨w', C', r1, r2, r3, r4, r5⟩ := run_storeCells' (X := X) us 0 C w (o := B.o + o) h3 (by omega) (fun j hj => by
    rw [Nat.add_zero, Nat.add_assoc]
    exact h8 (o + j) (by omega) (by omega)) h1
  refine ⟨w', r1, ⟨C', f, ⟨q, r2, hq⟩, by omega, ⟨_, VL.splice hc h5 hle, ?_, ?_⟩, h8, h9⟩, r5⟩
  · have e : (lsplice o us vs).length = vs.length := by
      unfold lsplice
      simp only [List.length_append, List.length_take, List.length_drop]
      omega
    omega
  · intro i v hv
    rw [lsplice_get (by omega)] at hv
    rw [r4]
    by_cases e : o ≤ i ∧ i < o + us.length
    · rw [if_pos e] at hv
      rw [if_pos (by omega)]
      have : B.o + i - (B.o + o + 0) = i - o := by omega
      rw [this]; exact hv
    · rw [if_neg e] at hv
      rw [if_neg (by omega)]
      exact h7 i v hv

noncomputable def opStn (x v : MO) (m : Nat) (fr : Fr) (h : H) (k : Kt) : Bool := x.getK fr fun a => v.getK fr fun v => onPtr a fun b o => cellsK v fun cs => rlenK cs 0 fun l => chk (Nat.beq l m) (onesK cs (getB h b fun bl => chk (!bl.ro) (onCells bl.c fun row el fz p z =>
  chk (Nat.ble fz o) (spliceK o cs row fun row => putB h b (.cells row el fz p z) fun h => k .top h))))
theorem opStn_says {o : Oper} {t : TypeId} {i : TypeInfo} {x v : Operand} {m mv : MO} {h : H} {k : Kt} (ho : o.op = .store t x v) (hi : X.E.ty t = some i) (hm : mo X.ng n x = some m) (hmv : mo X.ng n v = some mv)
    (hk : opStn m mv i.size fr h k = true) : Says X n fr o h k := by
  unfold opStn at hk
  simp only [MO.getK_eq] at hk
  obtain ⟨b, ob, hs, hk⟩ := onPtr_inv hk
  obtain ⟨cs, hk, hcs⟩ := cellsK_inv hk
  obtain ⟨hk, _⟩ := rlenK_inv hk
  obtain ⟨hl, hk⟩ := chk_eq hk
  obtain ⟨hk, hone⟩ := onesK_inv hk
  obtain ⟨bl, hb, hk⟩ := getB_inv hk
  obtain ⟨hro, hk⟩ := chk_eq hk
  obtain ⟨row, el, fz, p, z, hc, hk⟩ := onCells_inv hk
  obtain ⟨hfz, hk⟩ := chk_eq hk
  obtain ⟨hle, hk⟩ := spliceK_inv hk
  rw [Nat.zero_add, beq_true] at hl
  rw [ble_true] at hfz
  refine Says.write (x := bl) (dOne_sub hb) (by simp [dOne]) (by simpa using hro) hk fun σ G a w B hf hok he hB hr => ?_
  rw [hc] at hr
  have hx := mo_V hm hf (lop (by rw [ho]; simp [Op.operands]))
  have hv := mo_V hmv hf (lop (by rw [ho]; simp [Op.operands]))
  rw [hs] at hx
  obtain ⟨B', hB', hxx⟩ := hx.ptr_inv
  rw [hB] at hB'; cases hB'
  have hcv := (hcs hv).1
  obtain ⟨w', h1, h2, h3⟩ := rel_splice hr hcv hle hfz (hone hcv)
  refine ⟨undef, .skip, w', ?_, .inr ⟨rfl, rfl⟩, trivial, h2, h3⟩
  have hsz : (a.eval v).cells.size = i.size := by
    have := hcv.len
    simp only [Array.length_toList] at this
    omega
  have e : ¬ ((a.eval v).cells.size ≠ i.size) := by omega
  simp only [execOp, ho, Instr.storeAt, hxx, Instr.sureAddr, Sem.run_bind, Sem.run_pure, Result.andThen_ok, storeVar, run_size hi, if_neg e, h1]

end Go.Ev
end

section
set_option linter.unusedVariables false
set_option linter.unusedSimpArgs false
namespace Go.Ev

variable {X : Cx} {σ : Sig} {n : Nat} {fr : Fr} {a : Act} {w : World} {L : Tmp → Prop}

theorem relNew {τ : Sig} {w' : World} {r : Nat} {C : Array Value} {el : Nat} {zs : AV} {vs rest : List Value} (hw : w'.heap[r]? = some (.cells C el (0, 0))) (hv : VL τ zs vs) (hC : C.toList = vs ++ rest) :
    RelC X τ w' ⟨r, 0, C.size⟩ (.cells zs el 0 true true) := by
  refine ⟨C, (0, 0), .mk hw, by simp, ⟨vs, hv, ?_, fun i v hi => ?_⟩, fun i _ _ h => by simp at h, fun _ => rfl, fun _ => rfl⟩
  · have := congrArg List.length hC
    simp at this
    simp; omega
  · have : C.toList[i]? = some v := by
      rw [hC, List.getElem?_append_left (List.getElem?_eq_some_iff.1 hi).1]; exact hi
    simpa using this

theorem zrow_V {i : TypeInfo} {z : AV} (h : zrow i = some z) : ∃ zv, i.zero = some zv ∧ ∀ σ, VL σ z zv.cells.toList := by
  unfold zrow at h
  cases hz : i.zero with
  | none => rw [hz] at h; cases h
  | some zv => rw [hz] at h; exact ⟨zv, rfl, fun σ => cvL_VL h⟩

noncomputable def opAlloc (zs : AV) (el : Nat) (fr : Fr) (h : H) (k : Kt) : Bool := newB h (.cells zs el 0 true true) fun b h => k (.ptr b 0) h
theorem opAlloc_saysF {o : Oper} {e : TypeId} {i : TypeInfo} {z : AV} {h : H} {k : Kt} (ho : o.op = .alloc e) (hi : X.E.ty e = some i) (hz : zrow i = some z) (hk : opAlloc z e fr h k = true) : SaysF X n fr o h k [] true := by
  refine SaysF.alloc (v := fun b => .ptr b 0) hk fun σ G a w hf hok hn => ?_
  obtain ⟨zv, h1, h2⟩ := zrow_V hz
  refine ⟨.pointer (some ⟨w.heap.size, 0, none⟩), _, w, .cells zv.cells e (0, 0), zv.cells.size, rfl, rfl, rfl, rfl, ?_, .inl rfl, fun τ _ _ hbk => ⟨⟨_, hbk, rfl⟩, fun w' hw' => relNew (rest := []) hw' (h2 τ) (by simp)⟩⟩
  simp only [execOp, ho]
  refine run_exec_value ?_
  simp only [Instr.alloc, Sem.run_bind, run_zero hi h1, Result.andThen_ok, newVar, newRow, run_newObj_alloc, Sem.run_pure]
noncomputable def opBox (x : MO) (el : Nat) (fr : Fr) (h : H) (k : Kt) : Bool := x.getK fr fun a => cellsK a fun cs => newB h (.cells cs el 0 true true) fun b h => k (.ptr b 0) h
theorem opBox_saysF {o : Oper} {e : TypeId} {x : Operand} {m : MO} {h : H} {k : Kt} (ho : o.op = .box e x) (hm : mo X.ng n x = some m) (hk : opBox m e fr h k = true) : SaysF X n fr o h k [] true := by
  unfold opBox at hk
  rw [MO.getK_eq] at hk
  obtain ⟨cs, hk, hcs⟩ := cellsK_inv hk
  refine SaysF.alloc (v := fun b => .ptr b 0) hk fun σ G a w hf hok hn => ?_
  have hv := mo_V hm hf (lop (by rw [ho]; simp [Op.operands]))
  refine ⟨.pointer (some ⟨w.heap.size, 0, none⟩), _, w, .cells (a.eval x).cells e (0, 0), (a.eval x).cells.size, rfl, rfl, rfl, rfl, ?_, .inl rfl, fun τ _ hle hbk => ⟨⟨_, hbk, rfl⟩, fun w' hw' => relNew (rest := []) hw' ((hcs (hv.mono hle)).1) (by simp)⟩⟩
  simp only [execOp, ho]
  refine run_exec_value ?_
  simp only [Instr.box, Sem.run_bind, Result.andThen_ok, newVar, newRow, run_newObj_alloc, Sem.run_pure]
noncomputable def opMkmap (fr : Fr) (h : H) (k : Kt) : Bool := newB h (.map .nil 0) fun b h => k (.map b) h
theorem opMkmap_saysF {o : Oper} {t : TypeId} {h : H} {k : Kt} (ho : o.op = .makeMap t none) (hk : opMkmap fr h k = true) : SaysF X n fr o h k [] true := by
  refine SaysF.alloc (v := fun b => .map b) hk fun σ G a w hf hok hn => ?_
  refine ⟨.map (some w.heap.size), _, w, .map #[] 0, 0, rfl, rfl, rfl, rfl, ?_, .inl rfl, fun τ _ hle hbk => ⟨⟨_, hbk, rfl⟩, fun w' hw' => ⟨#[], hw', rfl⟩⟩⟩
  simp only [execOp, ho]
  refine run_exec_value ?_
  simp [Instr.makeMap]

/-! ### rows of zero cells -/
def repL (zs : List Value) : Nat → List Value
  | 0 => []
  | k + 1 => zs ++ repL zs k
theorem rep_VL {z : AV} {zs : List Value} (h : VL σ z zs) : ∀ k, VL σ (z.rep k) (repL zs k)
  | 0 => rfl
  | k + 1 => VL.app (rep_VL h k) h
theorem repL_length (zs : List Value) : ∀ k, (repL zs k).length = k * zs.length
  | 0 => by simp [repL]
  | k + 1 => by rw [repL, List.length_append, repL_length zs k, Nat.add_mul]; omega
theorem rep_range (zs : Array Value) : ∀ k, ((Array.range (k * zs.size)).map fun i => zs[i % zs.size]!).toList = repL zs.toList k := by
  intro k
  rw [Array.toList_map, Array.toList_range]
  induction k with
  | zero => simp [repL]
  | succ k ih =>
    have e : (k + 1) * zs.size = zs.size + k * zs.size := by rw [Nat.add_mul]; omega
    rw [e, List.range_add, List.map_append, repL, ← ih]
    congr 1
    · apply List.ext_getElem?
      intro i
      by_cases hi : i < zs.size
      · simp [hi, Nat.mod_eq_of_lt hi]
      · simp [hi, Nat.le_of_not_lt hi]
    · rw [List.map_map]
      apply List.map_congr_left
      intro i _
      simp
theorem rep_range' {zs : Array Value} {k s : Nat} (hs : zs.size = s) : ((Array.range (k * s)).map fun i => zs[i % zs.size]!).toList = repL zs.toList k := by
  subst hs; exact rep_range zs k

noncomputable def opBsl (zs : AV) (el len : Nat) (ps : List (Nat × Nat × MO)) (fr : Fr) (h : H) (k : Kt) : Bool := fillK fr ps zs fun r => newB h (.cells r el 0 true true) fun b h => k (.sl b 0 len len 0) h
theorem opBsl_saysF {o : Oper} {t e : TypeId} {len : Nat} {i : TypeInfo} {z : AV} {ps : Array (Nat × Operand)} {ms : List (Nat × Nat × MO)} {h : H} {k : Kt} (ho : o.op = .buildSlice t len ps) (ht : X.E.und t = some (.slice e)) (hi : X.E.ty e = some i) (hz : zrow i = some z)
    (hsz : len * i.size ≤ 2 ^ 24) (hzl : z.len = i.size) (hc : cparts X.ng n (fun i' => some (i' * i.size, i.size)) ps.toList = some ms) (hk : opBsl (z.rep len) e len ms fr h k = true) : SaysF X n fr o h k [] true := by
  obtain ⟨row, hk, hf⟩ := fillK_inv (L := Lop o) hc hk
  refine SaysF.alloc (v := fun b => .sl b 0 len len 0) hk fun σ G a w hfit hok hn => ?_
  obtain ⟨zv, h1, h2⟩ := zrow_V hz
  have hzs : zv.cells.size = i.size := by have := (h2 σ).len; simp only [Array.length_toList] at this; omega
  have hrow : ∀ τ : Sig, VL τ (z.rep len) ((Array.range (len * i.size)).map fun i => zv.cells[i % zv.cells.size]!).toList := fun τ => by
    rw [rep_range' hzs]
    exact rep_VL (h2 τ) len
  have hp : ∀ p ∈ ps.toList, ∀ t, p.2 = .tmp t → Lop o t := fun p hp t ht => by
    refine lop ?_ t ht
    rw [ho]; simp only [Op.operands, List.mem_toArray, List.mem_map]
    exact ⟨p, hp, rfl⟩
  obtain ⟨cells, h3, h4⟩ := hf σ a hfit hp _ (hrow σ)
  refine ⟨.slice (some ⟨w.heap.size, 0, none⟩) len len, _, w, .cells cells e (0, 0), cells.size, rfl, rfl, rfl, rfl, ?_, .inl rfl, fun τ _ hle hbk => ⟨⟨_, len, hbk, rfl, Nat.le_refl _, Nat.le_refl _, fun _ => rfl, fun h => absurd rfl h⟩, fun w' hw' => relNew (rest := []) hw' (h4.mono hle) (by simp)⟩⟩
  simp only [execOp, ho]
  refine run_exec_value ?_
  have he : (ps.map fun (i, x) => (i, a.eval x)).toList = ps.toList.map fun p => (p.1, a.eval p.2) := by simp
  have hg : ¬ (len * i.size > 2 ^ 24) := by omega
  have h5 : Instr.fill (fun i' => some (i' * i.size, i.size)) ((Array.range (len * i.size)).map (fun x => (if len * i.size = 0 then (#[] : Array Value) else zv.cells)[x % (if len * i.size = 0 then (#[] : Array Value) else zv.cells).size]!)) (ps.map fun (i, x) => (i, a.eval x)).toList = some cells := by
    rw [he]
    by_cases h0 : len * i.size = 0
    · have hr0 : Array.range (len * i.size) = #[] := by rw [h0]; rfl
      rw [hr0] at h3 ⊢
      rw [Array.map_empty] at h3 ⊢
      exact h3
    · rw [if_neg h0]; exact h3
  simp only [Instr.buildSlice, Sem.run_bind, run_und ht, Result.andThen_ok, run_size hi, if_neg hg]
  by_cases h0 : len * i.size = 0
  · simp only [if_pos h0] at h5
    simp only [if_pos h0, Sem.run_pure, Result.andThen_ok, h5, newRow, run_newObj_alloc, Sem.run_bind]
  · simp only [if_neg h0] at h5
    simp only [if_neg h0, Sem.run_bind, run_zero hi h1, Sem.run_pure, Result.andThen_ok, h5, newRow, run_newObj_alloc]

noncomputable def repK (z : AV) (c : Nat) : (AV → Bool) → Bool := Nat.rec (motive := fun _ => (AV → Bool) → Bool) (fun k => k .nil) (fun _ ih k => ih fun r => rappK z r k) c
theorem repK_inv {z : AV} : ∀ {c : Nat} {k : AV → Bool}, repK z c k = true → k (z.rep c) = true := by
  intro c
  induction c with
  | zero => exact fun h => h
  | succ c ih => exact fun {k} h => rappK_inv (k := k) (ih h)
noncomputable def opMksl (zs : AV) (el bytes : Nat) (l c : MO) (fr : Fr) (h : H) (k : Kt) : Bool := l.getK fr fun l => c.getK fr fun c => ixK l fun l => ixK c fun c =>
  chk (Nat.ble l c) (chk (Nat.ble c 16777216) (chk (Nat.ble (Nat.mul bytes c) 281474976710656) (repK zs c fun r => newB h (.cells r el 0 true true) fun b h => k (.sl b 0 l c 0) h)))
theorem opMksl_saysF {o : Oper} {t e : TypeId} {i : TypeInfo} {z : AV} {l c : Operand} {ml mc : MO} {h : H} {k : Kt} (ho : o.op = .makeSlice t l c) (ht : X.E.und t = some (.slice e)) (hi : X.E.ty e = some i) (hz : zrow i = some z) (h0 : 0 < i.size) (hzl : z.len = i.size)
    (hl : mo X.ng n l = some ml) (hc : mo X.ng n c = some mc) (hk : opMksl z e i.bytes ml mc fr h k = true) : SaysF X n fr o h k [] true := by
  unfold opMksl at hk
  simp only [MO.getK_eq] at hk
  obtain ⟨ql, jl, hjl, hk⟩ := ixK_inv hk
  obtain ⟨qc, jc, hjc, hk⟩ := ixK_inv hk
  obtain ⟨g1, hk⟩ := chk_eq hk
  obtain ⟨g2, hk⟩ := chk_eq hk
  obtain ⟨g3, hk⟩ := chk_eq hk
  have hk := repK_inv hk
  rw [ble_true] at g1 g2 g3
  refine SaysF.alloc (v := fun b => .sl b 0 jl jc 0) hk fun σ G a w hfit hok hn => ?_
  obtain ⟨zv, h1, h2⟩ := zrow_V hz
  have hzs : zv.cells.size = i.size := by have := (h2 σ).len; simp only [Array.length_toList] at this; omega
  have hvl := mo_V hl hfit (lop (by rw [ho]; simp [Op.operands]))
  have hvc := mo_V hc hfit (lop (by rw [ho]; simp [Op.operands]))
  rw [hjl] at hvl
  rw [hjc] at hvc
  refine ⟨.slice (some ⟨w.heap.size, 0, none⟩) jl jc, _, w, .cells ((Array.range (jc * i.size)).map fun i => zv.cells[i % zv.cells.size]!) e (0, 0), ((Array.range (jc * i.size)).map fun i => zv.cells[i % zv.cells.size]!).size, rfl, rfl, rfl, rfl, ?_, .inl rfl,
    fun τ _ hle hbk => ⟨⟨_, jc, hbk, rfl, g1, Nat.le_refl _, fun _ => rfl, fun h => absurd rfl h⟩, fun w' hw' => relNew (rest := []) hw' (rep_VL (h2 τ) jc) (by rw [rep_range' hzs]; simp)⟩⟩
  simp only [execOp, ho]
  refine run_exec_value ?_
  have w1 : IntKind.i64.wrap (Int.ofNat jl) = (jl : Int) := inK_wrap (k := .i64) (show Nat.ble _ 9223372036854775807 = true from ble_true.2 (by omega))
  have w2 : IntKind.i64.wrap (Int.ofNat jc) = (jc : Int) := inK_wrap (k := .i64) (show Nat.ble _ 9223372036854775807 = true from ble_true.2 (by omega))
  have e1 : ¬ ((jc : Int) < 0) := by omega
  have e2 : ¬ ((i.bytes : Int) * (jc : Int) > 2 ^ 48) := by
    have : i.bytes * jc ≤ 281474976710656 := g3
    have h' : ((i.bytes * jc : Nat) : Int) ≤ 281474976710656 := (show ∀ q : Nat, q ≤ 281474976710656 → ((q : Nat) : Int) ≤ 281474976710656 by intro q h; omega) _ this
    rw [Int.natCast_mul] at h'
    have h48 : (2 : Int) ^ 48 = 281474976710656 := by simp
    omega
  have e3 : ¬ ((jl : Int) < 0) := by omega
  have e4 : ¬ ((jl : Int) > (jc : Int)) := by omega
  simp only [Instr.makeSlice, Sem.run_bind, run_und ht, Result.andThen_ok, hvl.int_inv, hvc.int_inv, asInt, asIntOf, Sem.run_pure, run_info hi, w1, w2]
  simp only [e1, e2, e3, e4, decide_false, Bool.or_false, Bool.false_eq_true, if_false, Sem.run_bind, Sem.run_pure, run_askRoom, Result.andThen_ok, Int.toNat_natCast, run_size hi]
  by_cases hz0 : jc * i.size = 0
  · simp only [if_pos hz0, Sem.run_pure, Result.andThen_ok, newRow, Sem.run_bind, run_newObj_alloc]
    have hr0 : Array.range (jc * i.size) = #[] := by rw [hz0]; rfl
    rw [hr0]; simp only [Array.map_empty]
  · simp only [if_neg hz0, Sem.run_bind, run_zero hi h1, Sem.run_pure, Result.andThen_ok, newRow, run_newObj_alloc]

end Go.Ev
end
