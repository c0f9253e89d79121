/- Values of the evaluator, their memory and the relation to the machine. -/
import Derived.RangeFuncLeaves
import Derived.RecoverIn
import Derived.OrdersIn
import Derived.KernelRfl
import Derived.Below
import Derived.Lib.ItoaNum
import Derived.WalkKit

section
set_option linter.unusedVariables false
namespace Go.Ev

/-- a choice that the kernel reckons quickly -/
noncomputable def sel (b : Bool) (t e : Bool) : Bool := Bool.rec (motive := fun _ => Bool) e t b
@[simp] theorem sel_true (t e : Bool) : sel true t e = t := rfl
@[simp] theorem sel_false (t e : Bool) : sel false t e = e := rfl
theorem sel_eq {b t e : Bool} (h : sel b t e = true) : (b = true ∧ t = true) ∨ (b = false ∧ e = true) := by
  cases b
  · exact .inr ⟨rfl, h⟩
  · exact .inl ⟨rfl, h⟩
/-- go on if so -/
noncomputable def chk (b : Bool) (t : Bool) : Bool := Bool.rec (motive := fun _ => Bool) false t b
theorem chk_eq {b t : Bool} (h : chk b t = true) : b = true ∧ t = true := by
  cases b
  · exact absurd h (by simp [chk])
  · exact ⟨rfl, h⟩
/-- a number, reckoned before it is handed on -/
noncomputable def fN (n : Nat) (k : Nat → Bool) : Bool := Nat.rec (motive := fun _ => Bool) (k 0) (fun m _ => k (Nat.succ m)) n
@[simp] theorem fN_eq (n : Nat) (k : Nat → Bool) : fN n k = k n := by cases n <;> rfl

theorem nbf {a b : Nat} : Nat.beq a b = false ↔ a ≠ b := by
  constructor
  · exact Nat.ne_of_beq_eq_false
  · intro h
    cases e : Nat.beq a b
    · rfl
    · exact absurd (Nat.eq_of_beq_eq_true e) h
/-- rows by numbers -/
inductive T (α : Type) where
  | e
  | n (l : T α) (v : Option α) (r : T α)

variable {α : Type}

def T.get : T α → Nat → Option α
  | .e, _ => none
  | .n l v r, k => if k = 0 then v else if (k - 1) % 2 = 0 then l.get ((k - 1) / 2) else r.get ((k - 1) / 2)

noncomputable def T.getK (t : T α) : Nat → (α → Bool) → Bool → Bool :=
  T.rec (motive := fun _ => Nat → (α → Bool) → Bool → Bool) (fun _ _ no => no)
    (fun _ v _ ihl ihr k ks no => sel (Nat.beq k 0) (Option.rec (motive := fun _ => Bool) no ks v)
      (fN (Nat.div (Nat.pred k) 2) fun j => sel (Nat.beq (Nat.mod k 2) 1) (ihl j ks no) (ihr j ks no))) t

theorem T.getK_eq (t : T α) : ∀ (k : Nat) (ks : α → Bool) (no : Bool), t.getK k ks no = match t.get k with | some x => ks x | none => no := by
  induction t with
  | e => intro k ks no; rfl
  | n l v r ihl ihr =>
    intro k ks no
    show sel (Nat.beq k 0) _ (fN _ _) = _
    rw [T.get, fN_eq]
    by_cases h0 : k = 0
    · subst h0; cases v <;> rfl
    · have : Nat.beq k 0 = false := nbf.2 h0
      rw [this, sel_false, if_neg h0]
      have hp : Nat.pred k = k - 1 := rfl
      have hm : Nat.mod k 2 = k % 2 := rfl
      have hd : Nat.div (k - 1) 2 = (k - 1) / 2 := rfl
      rw [hp, hm, hd]
      by_cases h1 : (k - 1) % 2 = 0
      · have : Nat.beq (k % 2) 1 = true := by rw [Nat.beq_eq]; omega
        rw [this, sel_true, if_pos h1]; exact ihl _ _ _
      · have : Nat.beq (k % 2) 1 = false := nbf.2 (by omega)
        rw [this, sel_false, if_neg h1]; exact ihr _ _ _

noncomputable def T.setK (v : Option α) (f : Nat) : T α → Nat → (T α → Bool) → Bool :=
  Nat.rec (motive := fun _ => T α → Nat → (T α → Bool) → Bool) (fun _ _ _ => false)
    (fun _ ih t k K => T.rec (motive := fun _ => Bool)
      (sel (Nat.beq k 0) (K (.n .e v .e)) (fN (Nat.div (Nat.pred k) 2) fun j => sel (Nat.beq (Nat.mod k 2) 1) (ih .e j fun l => K (.n l none .e)) (ih .e j fun r => K (.n .e none r))))
      (fun l x r _ _ => sel (Nat.beq k 0) (K (.n l v r)) (fN (Nat.div (Nat.pred k) 2) fun j => sel (Nat.beq (Nat.mod k 2) 1) (ih l j fun l => K (.n l x r)) (ih r j fun r => K (.n l x r)))) t) f

theorem T.setK_inv (v : Option α) : ∀ (f : Nat) (t : T α) (k : Nat) (K : T α → Bool), T.setK v f t k K = true →
    ∃ t', (∀ m, T.get t' m = if m = k then v else t.get m) ∧ K t' = true := by
  intro f
  induction f with
  | zero => intro t k K h; cases h
  | succ f ih =>
    intro t k K h
    cases t with
    | e =>
      change sel (Nat.beq k 0) _ (fN _ _) = true at h
      rw [fN_eq] at h
      rcases sel_eq h with ⟨h0, h⟩ | ⟨h0, h⟩
      · rw [Nat.beq_eq] at h0
        subst h0
        refine ⟨_, fun m => ?_, h⟩
        by_cases hm : m = 0
        · simp [T.get, hm]
        · simp [T.get, hm]
      · rw [nbf] at h0
        have hp : Nat.pred k = k - 1 := rfl
        have hmd : Nat.mod k 2 = k % 2 := rfl
        have hd : Nat.div (k - 1) 2 = (k - 1) / 2 := rfl
        rw [hp, hmd, hd] at h
        rcases sel_eq h with ⟨h1, h⟩ | ⟨h1, h⟩
        · rw [Nat.beq_eq] at h1
          obtain ⟨l, hl, hK⟩ := ih _ _ _ h
          refine ⟨_, fun m => ?_, hK⟩
          simp only [T.get] at hl ⊢
          by_cases hm : m = 0
          · subst hm; rw [if_pos rfl, if_neg (by omega)]
          · rw [if_neg hm]
            split
            · rw [hl]; by_cases e : m = k
              · subst e; simp
              · rw [if_neg (by omega), if_neg e]
            · rw [if_neg (by omega)]
        · rw [nbf] at h1
          obtain ⟨l, hl, hK⟩ := ih _ _ _ h
          refine ⟨_, fun m => ?_, hK⟩
          simp only [T.get] at hl ⊢
          by_cases hm : m = 0
          · subst hm; rw [if_pos rfl, if_neg (by omega)]
          · rw [if_neg hm]
            split
            · rw [if_neg (by omega)]
            · rw [hl]; by_cases e : m = k
              · subst e; simp
              · rw [if_neg (by omega), if_neg e]
    | n l x r =>
      change sel (Nat.beq k 0) _ (fN _ _) = true at h
      rw [fN_eq] at h
      rcases sel_eq h with ⟨h0, h⟩ | ⟨h0, h⟩
      · rw [Nat.beq_eq] at h0
        subst h0
        refine ⟨_, fun m => ?_, h⟩
        by_cases hm : m = 0
        · simp [T.get, hm]
        · simp [T.get, hm]
      · rw [nbf] at h0
        have hp : Nat.pred k = k - 1 := rfl
        have hmd : Nat.mod k 2 = k % 2 := rfl
        have hd : Nat.div (k - 1) 2 = (k - 1) / 2 := rfl
        rw [hp, hmd, hd] at h
        rcases sel_eq h with ⟨h1, h⟩ | ⟨h1, h⟩
        · rw [Nat.beq_eq] at h1
          obtain ⟨l', hl, hK⟩ := ih _ _ _ h
          refine ⟨_, fun m => ?_, hK⟩
          simp only [T.get]
          by_cases hm : m = 0
          · subst hm; rw [if_pos rfl, if_neg (by omega), if_pos rfl]
          · rw [if_neg hm, if_neg hm]
            split
            · rw [hl]; by_cases e : m = k
              · subst e; simp
              · rw [if_neg (by omega), if_neg e]
            · rw [if_neg (by omega)]
        · rw [nbf] at h1
          obtain ⟨l', hl, hK⟩ := ih _ _ _ h
          refine ⟨_, fun m => ?_, hK⟩
          simp only [T.get]
          by_cases hm : m = 0
          · subst hm; rw [if_pos rfl, if_neg (by omega), if_pos rfl]
          · rw [if_neg hm, if_neg hm]
            split
            · rw [if_neg (by omega)]
            · rw [hl]; by_cases e : m = k
              · subst e; simp
              · rw [if_neg (by omega), if_neg e]

end Go.Ev
end

section
set_option linter.unusedVariables false
namespace Go.Ev
/-- a digit -/
inductive D where
  | d0 | d1 | d2 | d3 | d4 | d5 | d6
  deriving DecidableEq
/-- a row of seven -/
inductive F (α : Type) where
  | m (p0 p1 p2 p3 p4 p5 p6 : α)
variable {α : Type}
def F.at : F α → D → α
  | .m x _ _ _ _ _ _, .d0 => x
  | .m _ x _ _ _ _ _, .d1 => x
  | .m _ _ x _ _ _ _, .d2 => x
  | .m _ _ _ x _ _ _, .d3 => x
  | .m _ _ _ _ x _ _, .d4 => x
  | .m _ _ _ _ _ x _, .d5 => x
  | .m _ _ _ _ _ _ x, .d6 => x
def F.put : F α → D → α → F α
  | .m _ p1 p2 p3 p4 p5 p6, .d0, x => .m x p1 p2 p3 p4 p5 p6
  | .m p0 _ p2 p3 p4 p5 p6, .d1, x => .m p0 x p2 p3 p4 p5 p6
  | .m p0 p1 _ p3 p4 p5 p6, .d2, x => .m p0 p1 x p3 p4 p5 p6
  | .m p0 p1 p2 _ p4 p5 p6, .d3, x => .m p0 p1 p2 x p4 p5 p6
  | .m p0 p1 p2 p3 _ p5 p6, .d4, x => .m p0 p1 p2 p3 x p5 p6
  | .m p0 p1 p2 p3 p4 _ p6, .d5, x => .m p0 p1 p2 p3 p4 x p6
  | .m p0 p1 p2 p3 p4 p5 _, .d6, x => .m p0 p1 p2 p3 p4 p5 x
theorem F.at_put (f : F α) (q q' : D) (x : α) : (f.put q x).at q' = if q' = q then x else f.at q' := by
  cases f; cases q <;> cases q' <;> rfl
noncomputable def F.getK (q : D) (f : F α) (k : α → Bool) : Bool := F.rec (motive := fun _ => Bool) (fun p0 p1 p2 p3 p4 p5 p6 => D.rec (motive := fun _ => Bool) (k p0) (k p1) (k p2) (k p3) (k p4) (k p5) (k p6) q) f
theorem F.getK_eq (q : D) (f : F α) (k : α → Bool) : F.getK q f k = k (f.at q) := by cases f; cases q <;> rfl
noncomputable def F.setK (q : D) (f : F α) (x : α) (k : F α → Bool) : Bool := F.rec (motive := fun _ => Bool) (fun p0 p1 p2 p3 p4 p5 p6 => D.rec (motive := fun _ => Bool) (k (.m x p1 p2 p3 p4 p5 p6)) (k (.m p0 x p2 p3 p4 p5 p6)) (k (.m p0 p1 x p3 p4 p5 p6)) (k (.m p0 p1 p2 x p4 p5 p6)) (k (.m p0 p1 p2 p3 x p5 p6)) (k (.m p0 p1 p2 p3 p4 x p6)) (k (.m p0 p1 p2 p3 p4 p5 x)) q) f
theorem F.setK_eq (q : D) (f : F α) (x : α) (k : F α → Bool) : F.setK q f x k = k (f.put q x) := by cases f; cases q <;> rfl
def D.of : Nat → D
  | 0 => .d0
  | 1 => .d1
  | 2 => .d2
  | 3 => .d3
  | 4 => .d4
  | 5 => .d5
  | _ => .d6
def D.nat : D → Nat
  | .d0 => 0
  | .d1 => 1
  | .d2 => 2
  | .d3 => 3
  | .d4 => 4
  | .d5 => 5
  | .d6 => 6
theorem D.nat_of (i : Nat) (h : i < 7) : (D.of i).nat = i := by
  match i, h with
  | 0, _ => rfl
  | 1, _ => rfl
  | 2, _ => rfl
  | 3, _ => rfl
  | 4, _ => rfl
  | 5, _ => rfl
  | 6, _ => rfl

theorem D.of_inj {i j : Nat} (hi : i < 7) (hj : j < 7) (h : D.of i = D.of j) : i = j := by
  rw [← D.nat_of i hi, ← D.nat_of j hj, h]

/-- a slot's place -/
structure Sl where
  x : D
  y : D
  z : D
  deriving DecidableEq
def slot (t : Nat) : Sl := ⟨D.of (t / 49), D.of (t / 7 % 7), D.of (t % 7)⟩
theorem slot_inj {t u : Nat} (ht : t < 343) (hu : u < 343) (h : slot t = slot u) : t = u := by
  unfold slot at h
  injection h with h1 h2 h3
  have a := D.of_inj (by omega) (by omega) h1
  have b := D.of_inj (by omega) (by omega) h2
  have c := D.of_inj (by omega) (by omega) h3
  omega
abbrev F3 (α : Type) := F (F (F α))
def F3.at (f : F3 α) (s : Sl) : α := F.at (F.at (F.at f s.x) s.y) s.z
def F3.put (f : F3 α) (s : Sl) (v : α) : F3 α := F.put f s.x (F.put (F.at f s.x) s.y (F.put (F.at (F.at f s.x) s.y) s.z v))
theorem F3.at_put (f : F3 α) (s u : Sl) (v : α) : F3.at (F3.put f s v) u = if u = s then v else F3.at f u := by
  obtain ⟨x, y, z⟩ := s
  obtain ⟨x', y', z'⟩ := u
  simp only [F3.at, F3.put, F.at_put, Sl.mk.injEq]
  by_cases h1 : x' = x
  · subst h1
    rw [if_pos rfl, F.at_put]
    by_cases h2 : y' = y
    · subst h2
      rw [if_pos rfl, F.at_put]
      by_cases h3 : z' = z
      · simp [h3]
      · simp [h3]
    · simp [h2]
  · simp [h1]
noncomputable def F3.getK (s : Sl) (f : F3 α) (k : α → Bool) : Bool :=
  Sl.rec (motive := fun _ => Bool) (fun x y z => F.getK x f fun f => F.getK y f fun f => F.getK z f k) s
theorem F3.getK_eq (s : Sl) (f : F3 α) (k : α → Bool) : F3.getK s f k = k (F3.at f s) := by
  cases s; simp [F3.getK, F.getK_eq, F3.at]
noncomputable def F3.setK (s : Sl) (f : F3 α) (v : α) (k : F3 α → Bool) : Bool :=
  Sl.rec (motive := fun _ => Bool) (fun x y z => F.getK x f fun f1 => F.getK y f1 fun f2 => F.setK z f2 v fun f2 => F.setK y f1 f2 fun f1 => F.setK x f f1 k) s
theorem F3.setK_eq (s : Sl) (f : F3 α) (v : α) (k : F3 α → Bool) : F3.setK s f v k = k (F3.put f s v) := by
  cases s; simp [F3.setK, F.getK_eq, F.setK_eq, F3.put]
def F3.all (v : α) : F3 α := let f := F.m v v v v v v v; let g := F.m f f f f f f f; F.m g g g g g g g
theorem F3.at_all (v : α) (s : Sl) : F3.at (F3.all v) s = v := by
  obtain ⟨x, y, z⟩ := s
  cases x <;> cases y <;> cases z <;> rfl
end Go.Ev
end

section
set_option linter.unusedVariables false
namespace Go.Ev

/-- a value as the machine beside has it; rows of values are values too (nil, cons) -/
inductive AV where
  | top
  | sym (i : Nat)
  | bool (b : Bool)
  | int (k : IntKind) (n : Int)
  | str (s : List Nat)
  | nilp
  | ptr (b o : Nat)
  | nils
  | sl (b o len cap ext : Nat)
  | nilm
  | map (b : Nat)
  | fn (f : Nat) (first cap : AV)
  | yld (b : Nat)
  | nilf
  | ifc (t : Nat) (v : AV)
  | nili
  | agg (l : AV)
  | tup (l : AV)
  | nil
  | cons (a l : AV)
  deriving DecidableEq

/-- where a block lies: the model's block, the first cell, how many cells there are from there -/
structure Bk where
  r : Nat
  o : Nat
  n : Nat

/-- what stands for what is not known: numbers (below 256), digits as bytes (from 256 on) -/
structure Sy where
  num : Nat → IntKind × Int
  dig : Nat → Nat
/-- a byte: itself, or a digit that is not known -/
def Sy.bv (y : Sy) (c : Nat) : Nat := if c < 256 then c else 48 + y.dig c % 10
def Sy.val (y : Sy) (i : Nat) : Value := if i < 256 then .int (y.num i).1 (y.num i).2 else .int .u8 (y.bv i : Nat)
structure Sig where
  bk : Nat → Option Bk
  sym : Sy

def Sig.le (σ τ : Sig) : Prop := (∀ b x, σ.bk b = some x → τ.bk b = some x) ∧ τ.sym = σ.sym
theorem Sig.le.refl (σ : Sig) : σ.le σ := ⟨fun _ _ h => h, rfl⟩
theorem Sig.le.trans {σ τ υ : Sig} (h : σ.le τ) (k : τ.le υ) : σ.le υ := ⟨fun b x hx => k.1 b x (h.1 b x hx), k.2.trans h.2⟩

/-- a text's bytes as numbers -/
def nums (s : ByteArray) : List Nat := s.data.toList.map UInt8.toNat
theorem Sy.bv_lt (y : Sy) {c : Nat} (h : c < 256) : y.bv c = c := if_pos h
theorem Sy.bv_ge (y : Sy) {c : Nat} (h : 256 ≤ c) : 48 ≤ y.bv c ∧ y.bv c ≤ 57 := by
  unfold Sy.bv; rw [if_neg (by omega)]; omega
theorem Sy.bv_byte (y : Sy) (c : Nat) : y.bv c < 256 := by
  unfold Sy.bv; split <;> omega
theorem Sy.map_plain (y : Sy) : ∀ {s : List Nat}, (∀ c ∈ s, c < 256) → s.map y.bv = s
  | [], _ => rfl
  | c :: s, h => by rw [List.map_cons, y.bv_lt (h c List.mem_cons_self), Sy.map_plain y fun d hd => h d (List.mem_cons_of_mem _ hd)]
theorem Sy.map_nums (y : Sy) (s : ByteArray) : (nums s).map y.bv = nums s := Sy.map_plain y fun c hc => by
  simp only [nums, List.mem_map] at hc
  obtain ⟨b, _, rfl⟩ := hc
  exact b.toNat_lt
theorem Sy.val_int (y : Sy) (i : Nat) : ∃ k z, y.val i = .int k z := by
  unfold Sy.val; split <;> exact ⟨_, _, rfl⟩
theorem Sy.val_dig (y : Sy) {c : Nat} (h : 256 ≤ c) : y.val c = .int .u8 (y.bv c : Nat) := if_neg (by omega)

/-- what a value says of the model's value, and a row of the model's row -/
def R (σ : Sig) : AV → (Value → Prop) × (List Value → Prop)
  | .top => (fun _ => True, fun _ => False)
  | .sym i => (fun v => v = σ.sym.val i, fun _ => False)
  | .bool b => (fun v => v = .bool b, fun _ => False)
  | .int k n => (fun v => v = .int k n, fun _ => False)
  | .str s => (fun v => ∃ t, v = .string t ∧ nums t = s.map σ.sym.bv, fun _ => False)
  | .nilp => (fun v => v = .pointer none, fun _ => False)
  | .ptr b o => (fun v => ∃ x, σ.bk b = some x ∧ v = .pointer (some ⟨x.r, x.o + o, none⟩), fun _ => False)
  | .nils => (fun v => v = .slice none 0 0, fun _ => False)
  | .sl b o len cap ext => (fun v => ∃ x c, σ.bk b = some x ∧ v = .slice (some ⟨x.r, x.o + o, none⟩) len c ∧ len ≤ cap ∧ cap ≤ c ∧ (ext = 0 → c = cap) ∧ (ext ≠ 0 → o + c * ext = x.n), fun _ => False)
  | .nilm => (fun v => v = .map none, fun _ => False)
  | .map b => (fun v => ∃ x, σ.bk b = some x ∧ v = .map (some x.r), fun _ => False)
  | .fn f p q => (fun v => ∃ ps qs, v = .func (.func f) ps qs ∧ (R σ p).2 ps.toList ∧ (R σ q).2 qs.toList, fun _ => False)
  | .yld b => (fun v => ∃ x, σ.bk b = some x ∧ v = .func (.yield x.r) #[] #[], fun _ => False)
  | .nilf => (fun v => v = .nilFunc, fun _ => False)
  | .ifc t a => (fun v => ∃ u, v = .iface t u ∧ (R σ a).1 u, fun _ => False)
  | .nili => (fun v => v = .nilIface, fun _ => False)
  | .agg l => (fun v => ∃ cs, v = .agg cs ∧ (R σ l).2 cs.toList, fun _ => False)
  | .tup l => (fun v => ∃ cs, v = .tuple cs ∧ (R σ l).2 cs.toList, fun _ => False)
  | .nil => (fun _ => False, fun vs => vs = [])
  | .cons a l => (fun _ => False, fun vs => ∃ v us, vs = v :: us ∧ (R σ a).1 v ∧ (R σ l).2 us)
/-- a value -/
def V (σ : Sig) (a : AV) (v : Value) : Prop := (R σ a).1 v
/-- a row -/
def VL (σ : Sig) (a : AV) (vs : List Value) : Prop := (R σ a).2 vs

theorem R.mono {σ τ : Sig} (h : σ.le τ) (a : AV) : (∀ v, V σ a v → V τ a v) ∧ (∀ vs, VL σ a vs → VL τ a vs) := by
  unfold V VL
  induction a with
  | sym i => exact ⟨fun v hv => by simp only [R] at hv ⊢; rw [h.2]; exact hv, fun _ hv => hv⟩
  | str s => exact ⟨fun v ⟨t, h1, h2⟩ => ⟨t, h1, by rw [h.2]; exact h2⟩, fun _ hv => hv⟩
  | ptr b o => exact ⟨fun v ⟨x, hx, hv⟩ => ⟨x, h.1 _ _ hx, hv⟩, fun _ hv => hv⟩
  | sl b o len cap ext => exact ⟨fun v ⟨x, c, hx, hv⟩ => ⟨x, c, h.1 _ _ hx, hv⟩, fun _ hv => hv⟩
  | map b => exact ⟨fun v ⟨x, hx, hv⟩ => ⟨x, h.1 _ _ hx, hv⟩, fun _ hv => hv⟩
  | yld b => exact ⟨fun v ⟨x, hx, hv⟩ => ⟨x, h.1 _ _ hx, hv⟩, fun _ hv => hv⟩
  | fn f p q ihp ihq => exact ⟨fun v ⟨ps, qs, hv, hp, hq⟩ => ⟨ps, qs, hv, ihp.2 _ hp, ihq.2 _ hq⟩, fun _ hv => hv⟩
  | ifc t a ih => exact ⟨fun v ⟨u, hv, hu⟩ => ⟨u, hv, ih.1 _ hu⟩, fun _ hv => hv⟩
  | agg l ih => exact ⟨fun v ⟨cs, hv, hc⟩ => ⟨cs, hv, ih.2 _ hc⟩, fun _ hv => hv⟩
  | tup l ih => exact ⟨fun v ⟨cs, hv, hc⟩ => ⟨cs, hv, ih.2 _ hc⟩, fun _ hv => hv⟩
  | cons a l iha ihl => exact ⟨fun _ hv => hv, fun vs ⟨v, us, hv, h1, h2⟩ => ⟨v, us, hv, iha.1 _ h1, ihl.2 _ h2⟩⟩
  | _ => exact ⟨fun _ hv => hv, fun _ hv => hv⟩
theorem V.mono {σ τ : Sig} {a : AV} {v : Value} (h : V σ a v) (hs : σ.le τ) : V τ a v := (R.mono hs a).1 v h
theorem VL.mono {σ τ : Sig} {a : AV} {v : List Value} (h : VL σ a v) (hs : σ.le τ) : VL τ a v := (R.mono hs a).2 v h

/-- a row as a list -/
def AV.len : AV → Nat
  | .cons _ l => l.len + 1
  | _ => 0
def AV.isRow : AV → Bool
  | .cons _ l => l.isRow
  | .nil => true
  | _ => false
theorem VL.len {σ : Sig} {a : AV} : ∀ {vs : List Value}, VL σ a vs → vs.length = a.len := by
  induction a with
  | nil => intro vs h; simp only [VL, R] at h; subst h; rfl
  | cons a l _ ih => intro vs h; obtain ⟨v, us, rfl, _, h2⟩ := h; simp only [List.length_cons, AV.len]; rw [ih h2]
  | _ => intro vs h; exact h.elim
def AV.nth : AV → Nat → Option AV
  | .cons a _, 0 => some a
  | .cons _ l, i + 1 => l.nth i
  | _, _ => none
theorem VL.nth {σ : Sig} {a : AV} : ∀ {vs : List Value} {i : Nat} {x : AV}, VL σ a vs → a.nth i = some x → ∃ v, vs[i]? = some v ∧ V σ x v := by
  induction a with
  | nil => intro vs i x h hx; cases i <;> cases hx
  | cons a l _ ih =>
    intro vs i x h hx
    obtain ⟨v, us, rfl, h1, h2⟩ := h
    cases i with
    | zero => simp only [AV.nth, Option.some.injEq] at hx; subst hx; exact ⟨v, rfl, h1⟩
    | succ i => simp only [AV.nth] at hx; obtain ⟨u, hu, hv⟩ := ih h2 hx; exact ⟨u, by simpa using hu, hv⟩
  | _ => intro vs i x h; exact h.elim
theorem VL.cons_inv {σ : Sig} {a l : AV} {vs : List Value} (h : VL σ (.cons a l) vs) : ∃ v us, vs = v :: us ∧ V σ a v ∧ VL σ l us := h
theorem VL.nil_inv {σ : Sig} {vs : List Value} (h : VL σ .nil vs) : vs = [] := h
theorem VL.cons {σ : Sig} {a l : AV} {v : Value} {vs : List Value} (h : V σ a v) (k : VL σ l vs) : VL σ (.cons a l) (v :: vs) := ⟨v, vs, rfl, h, k⟩
theorem VL.nil {σ : Sig} : VL σ .nil [] := rfl

/-- the element of a row, for the kernel -/
noncomputable def AV.nthK (i : Nat) : AV → (AV → Bool) → Bool :=
  Nat.rec (motive := fun _ => AV → (AV → Bool) → Bool)
    (fun a k => AV.casesOn (motive := fun _ => Bool) a false (fun _ => false) (fun _ => false) (fun _ _ => false) (fun _ => false) false (fun _ _ => false) false (fun _ _ _ _ _ => false) false (fun _ => false) (fun _ _ _ => false) (fun _ => false) false (fun _ _ => false) false (fun _ => false) (fun _ => false) false (fun x _ => k x))
    (fun _ ih a k => AV.casesOn (motive := fun _ => Bool) a false (fun _ => false) (fun _ => false) (fun _ _ => false) (fun _ => false) false (fun _ _ => false) false (fun _ _ _ _ _ => false) false (fun _ => false) (fun _ _ _ => false) (fun _ => false) false (fun _ _ => false) false (fun _ => false) (fun _ => false) false (fun _ l => ih l k)) i
theorem AV.nthK_eq : ∀ (i : Nat) (a : AV) (k : AV → Bool), AV.nthK i a k = match a.nth i with | some x => k x | none => false := by
  intro i
  induction i with
  | zero => intro a k; cases a <;> rfl
  | succ i ih =>
    intro a k
    cases a with
    | cons x l => exact ih l k
    | _ => rfl
theorem AV.nthK_inv {i : Nat} {a : AV} {k : AV → Bool} (h : AV.nthK i a k = true) : ∃ x, a.nth i = some x ∧ k x = true := by
  rw [AV.nthK_eq] at h
  split at h
  · exact ⟨_, by assumption, h⟩
  · cases h

/-- the entries of a map -/
inductive Ents where
  | nil
  | cons (k v : AV) (born : Nat) (l : Ents)
def EL (σ : Sig) : Ents → List MapEntry → Prop
  | .nil, es => es = []
  | .cons k v b l, es => ∃ e us, es = e :: us ∧ V σ k e.key ∧ V σ v e.val ∧ e.born = b ∧ EL σ l us
theorem EL.mono {σ τ : Sig} (hs : σ.le τ) : ∀ {a : Ents} {es : List MapEntry}, EL σ a es → EL τ a es
  | .nil, _, h => h
  | .cons _ _ _ _, _, ⟨e, us, h, h1, h2, h3, h4⟩ => ⟨e, us, h, h1.mono hs, h2.mono hs, h3, EL.mono hs h4⟩

/-- a frame's slots -/
abbrev Fr := F3 AV
structure RF (σ : Sig) (n : Nat) (fr : Fr) (tmps : Array Value) : Prop where
  size : tmps.size = n
  all : ∀ i (h : i < tmps.size), V σ (F3.at fr (slot i)) tmps[i]
theorem RF.mono {σ τ : Sig} {n : Nat} {fr : Fr} {tmps : Array Value} (h : RF σ n fr tmps) (hs : σ.le τ) : RF τ n fr tmps :=
  ⟨h.size, fun i hi => (h.all i hi).mono hs⟩

end Go.Ev
end

section
set_option linter.unusedVariables false
namespace Go.Ev

/-- an operand -/
inductive MO where
  | t (s : Sl)
  | c (v : AV)

/-- the library's functions without a body that are answered here -/
inductive Xt where
  | indexByte | count | noEscape | mapsClone | makeNoZero
  deriving DecidableEq

/-- what kind of values are held against each other -/
inductive EK where
  | b | s | m | f | i | p | z
  deriving DecidableEq

/-- an operation -/
inductive MOp where
  | mv (x : MO)
  | pick (c a b : MO)
  | alloc (zs : AV) (el : Nat)
  | box (x : MO) (el : Nat)
  | build (zs : AV) (ps : List (Nat × Nat × MO))
  | bsl (zs : AV) (el len : Nat) (ps : List (Nat × Nat × MO))
  | ld1 (a : MO)
  | ldn (a : MO) (n : Nat)
  | stn (a x : MO) (n : Nat)
  | nilc (x : MO)
  | bin (o : BinOp) (x y : MO)
  | eqv (neg : Bool) (x y : MO) (lit : Bool) (kd : EK)
  | not (x : MO)
  | neg (x : MO)
  | cvi (k : IntKind) (x : MO)
  | cvsb (el : Nat) (x : MO)
  | cvbs (x : MO)
  | cvs (x : MO)
  | cvpu (x : MO)
  | cvup (tb : List (Nat × Nat × Nat)) (x : MO)
  | ssd (x : MO)
  | ust (e : Nat) (x l : MO)
  | mkif (t : Nat) (x : MO)
  | mkfn (f : Nat) (p q : List MO)
  | mkmap
  | mksl (zs : AV) (el bytes : Nat) (l c : MO)
  | slstr (x : MO) (lo hi : Option MO)
  | slsl (es : Nat) (x : MO) (lo hi mx : Option MO)
  | fad (x : MO) (o : Nat)
  | fld (x : MO) (o : Nat)
  | fldn (x : MO) (o n : Nat)
  | iad (es : Nat) (x i : MO)
  | iada (es len : Nat) (x i : MO)
  | ixs (x i : MO)
  | ixa (len : Nat) (x i : MO)
  | look (z : AV) (ok : Bool) (kd : EK) (pt : List Bool) (x i : MO)
  | mup (kd : EK) (pt : List Bool) (m k v : MO)
  | rng (x : MO) (str : Bool)
  | nxt (it : MO) (str : Bool)
  | ent (it : MO)
  | tas (x : MO) (t : Nat) (z : AV) (ok : Bool)
  | ext (x : MO) (i : Nat)
  | len (kd : EK) (x : MO)
  | cap (x : MO)
  | app (el es bytes : Nat) (s x : MO)
  | min (x y : MO)
  | max (x y : MO)
  | xt (f : Xt) (args : List MO)
  | call (f : Nat) (args : List MO)
  | callv (x : MO) (args : List MO)
  | inv (x : MO) (tb : List (Nat × Nat × Nat)) (args : List MO)
  | dfr (x : MO) (args : List MO)
  | pnc (x : MO)
  | rcv
  | cpl (x : MO)
  | cpy (x y : MO)
  | cvm (x : MO)
  | mkz (el : Nat) (x : MO)

inductive MD where
  | none
  | some (s : Sl)
inductive MG where
  | none
  | some (s : Sl) (w : Bool)
inductive MOper where
  | mk (dst : MD) (op : MOp) (g : MG)

/-- an operation of a region that draws its order: its number; how far back the first of those lies that may turn what it reads -/
inductive MDr where
  | mk (j : Nat) (m : MOper) (bd : Option Nat)

inductive MC where
  | skip
  | reg (ops : List MOper)
  | dreg (ops : List MOper)
  | draw (ops : List MDr)
  | seq (a b : MC)
  | cond (c : MO) (a b : MC)
  | block (id : Nat) (c : MC)
  | loop (c : MC)
  | hloop (si s55 s56 st : Sl) (off : Nat) (hv : List Sl) (id id2 : Nat) (b : MC)
  | rf (g : Nat) (f : MO)
  | exit (id : Nat)
  | scope (c : MC)
  | inScope (r c : MC)
  | label (l : Nat)
  | goto (l : Nat)
  | ret
  | bad

/-- a function's loop over a function: how many slots, where a round's arguments go, what is done ahead of the body, the body -/
inductive MRf where
  | mk (n : Nat) (ps : List Sl) (asg body : MC)

/-- what is known of the program: types, functions -/
structure Env where
  ty : Nat → Option TypeInfo
  fk : Nat → Option (Option Xt)
  ns : Nat → Bool
  mt : String → List (Nat × Nat × Nat)
  mz : TypeId
  mzf : Nat → Bool
  lies : TypeId → List (Nat × Nat × Nat)
  hv : Nat → Option (Tmp × Nat × List Tmp)

def Env.und (E : Env) (t : Nat) : Option TypeDesc :=
  match E.ty t with
  | some { desc := .named _ u, .. } => (E.ty u).map (·.desc)
  | some i => some i.desc
  | none => none

def xtSem : Xt → Option (Array Value → Sem Value)
  | .indexByte => some Extern.BytealgIndexByte.indexByte
  | .count => some Extern.BytealgCount.count
  | .noEscape => some Extern.AbiNoEscape.same
  | _ => none

/-- the receiver as it is (0), or the first of a struct's cells (how many) -/
def recvOf (q : Nat) (v u : Value) : Prop := (q = 0 ∧ u = v) ∨ ∃ l : List Value, l.length + 1 = q ∧ u = .agg (v :: l).toArray
/-- what a method of a type comes to: the function, the receiver -/
def MethOK (P : Program) (t : TypeId) (name : String) (f q : Nat) : Prop := (∀ (v u : Value) (w : World), recvOf q v u → (method (P.types.size + Made.depth) t u name).run P w = .ok (f, v) w) ∧ ∃ fn, P.funcs[f]? = some fn ∧ fn.body.isSome = true ∧ fn.name ≠ "runtime.NumGoroutine"
structure EnvOK (P : Program) (E : Env) : Prop where
  lies : ∀ u el o s, (el, o, s) ∈ E.lies u → liesAt P P.depth el 1 o u 1 = true ∧ P.cellsOf el = s ∧ 0 < s
  mzok : ∀ f, E.mzf f = true → ∃ fn, P.funcs[f]? = some fn ∧ (fn.name == "runtime.NumGoroutine") = false ∧ fn.body.isNone = true ∧ Extern.findNext fn = none ∧ Extern.find fn = some (Extern.BytealgMakeNoZero.makeNoZero fn.params #[E.mz])
  mt : ∀ name t f q, (t, f, q) ∈ E.mt name → MethOK P t name f q
  mix : P.follows .mixedOrders = true
  ty : ∀ t i, E.ty t = some i → P.info? t = some i
  ns : ∀ t, E.ns t = true → P.stoodInHeld t = false
  fb : ∀ f, E.fk f = some none → ∃ fn, P.funcs[f]? = some fn ∧ fn.body.isSome = true ∧ fn.name ≠ "runtime.NumGoroutine"
  fx : ∀ f x, E.fk f = some (some x) → ∃ fn e, P.funcs[f]? = some fn ∧ (fn.name == "runtime.NumGoroutine") = false ∧ fn.body.isNone = true ∧ Extern.findNext fn = none ∧ Extern.find fn = some e ∧ xtSem x = some e

theorem EnvOK.und {P : Program} {E : Env} (h : EnvOK P E) {t : Nat} {d : TypeDesc} (hd : E.und t = some d) : P.underlying t = some d := by
  unfold Env.und at hd
  unfold Program.underlying
  cases ht : E.ty t with
  | none => rw [ht] at hd; cases hd
  | some i =>
    rw [ht] at hd
    rw [h.ty _ _ ht]
    obtain ⟨desc, a1, a2, a3, a4, a5, a6, a7, a8, a9⟩ := i
    cases desc with
    | named s u =>
      change (E.ty u).map (·.desc) = some d at hd
      show (P.info? u).map (·.desc) = some d
      cases hu : E.ty u with
      | none => rw [hu] at hd; cases hd
      | some i => rw [hu] at hd; rw [h.ty _ _ hu]; exact hd
    | _ => exact hd

end Go.Ev
end

section
set_option linter.unusedVariables false
namespace Go.Ev

/-- a constant that is no row of cells -/
def cvS : Value → Option AV
  | .bool b => some (.bool b)
  | .int k n => some (.int k n)
  | .string s => some (.str (nums s))
  | .pointer none => some .nilp
  | .slice none 0 0 => some .nils
  | .map none => some .nilm
  | .nilFunc => some .nilf
  | .nilIface => some .nili
  | .func (.func f) ps qs => if ps.toList = [] ∧ qs.toList = [] then some (.fn f .nil .nil) else none
  | .iface t (.int k n) => some (.ifc t (.int k n))
  | .iface t (.string s) => some (.ifc t (.str (nums s)))
  | _ => none
def cvL : List Value → Option AV
  | [] => some .nil
  | v :: vs => match cvS v, cvL vs with
    | some a, some l => some (.cons a l)
    | _, _ => none
def cv : Value → Option AV
  | .agg cs => (cvL cs.toList).map .agg
  | .tuple cs => (cvL cs.toList).map .tup
  | v => cvS v

theorem cvS_V {σ : Sig} {v : Value} {a : AV} (h : cvS v = some a) : V σ a v := by
  unfold cvS at h
  split at h <;> first | (cases h; done) | (cases h; first | rfl | exact ⟨_, rfl, (Sy.map_nums _ _).symm⟩ | exact ⟨_, rfl, rfl⟩ | exact ⟨_, rfl, rfl, rfl⟩) | skip
  · split at h
    · rename_i h1
      cases h
      exact ⟨_, _, rfl, h1.1, h1.2⟩
    · cases h
  · cases h; exact ⟨_, rfl, _, rfl, (Sy.map_nums _ _).symm⟩
theorem cvL_VL {σ : Sig} : ∀ {vs : List Value} {a : AV}, cvL vs = some a → VL σ a vs
  | [], _, h => by cases h; rfl
  | v :: vs, a, h => by
    unfold cvL at h
    split at h
    · rename_i x l hx hl
      cases h
      exact ⟨v, vs, rfl, cvS_V hx, cvL_VL hl⟩
    · cases h
theorem cv_V {σ : Sig} {v : Value} {a : AV} (h : cv v = some a) : V σ a v := by
  unfold cv at h
  split at h
  · simp only [Option.map_eq_some_iff] at h
    obtain ⟨l, hl, rfl⟩ := h
    exact ⟨_, rfl, cvL_VL hl⟩
  · simp only [Option.map_eq_some_iff] at h
    obtain ⟨l, hl, rfl⟩ := h
    exact ⟨_, rfl, cvL_VL hl⟩
  · exact cvS_V h

section
variable (E : Env) (ng n : Nat)

def mo : Operand → Option MO
  | .tmp t => if t < n ∧ n ≤ 343 then some (.t (slot t)) else none
  | .const v => (cv v).map .c
  | .global g => if g < ng then some (.c (.ptr g 0)) else none
  | .func f => some (.c (.fn f .nil .nil))
def mos : List Operand → Option (List MO)
  | [] => some []
  | x :: xs => match mo ng n x, mos xs with
    | some a, some l => some (a :: l)
    | _, _ => none
def mopt : Option Operand → Option (Option MO)
  | none => some none
  | some x => (mo ng n x).map some
def sl (t : Tmp) : Option Sl := if t < n ∧ n ≤ 343 then some (slot t) else none

def zrow (i : TypeInfo) : Option AV := i.zero.bind fun z => cvL z.cells.toList
/-- k rows of cells, one behind the other -/
def AV.app : AV → AV → AV
  | .cons a l, m => .cons a (l.app m)
  | _, m => m
def AV.rep (z : AV) : Nat → AV
  | 0 => .nil
  | k + 1 => z.app (z.rep k)

def cparts (off : Nat → Option (Nat × Nat)) : List (Nat × Operand) → Option (List (Nat × Nat × MO))
  | [] => some []
  | (i, x) :: l => match off i, mo ng n x, cparts off l with
    | some (o, s), some a, some l => some ((o, s, a) :: l)
    | _, _, _ => none

def isAggD : TypeDesc → Bool
  | .struct _ | .array _ _ => true
  | _ => false

/-- may values of this type be compared as they stand? (bools, pointers to something, slices, maps, functions, interfaces) -/
def cbuiltin (b : Builtin) (ats : Array TypeId) (args : List Operand) : Option MOp :=
  match b, args with
  | .len, [x] => do
    let d ← E.und (← ats[0]?)
    match d with
    | .string => pure (.len .b (← mo ng n x))
    | .slice _ => pure (.len .s (← mo ng n x))
    | .map _ _ => pure (.len .m (← mo ng n x))
    | _ => none
  | .cap, [x] => do
    let .slice _ ← E.und (← ats[0]?) | none
    pure (.cap (← mo ng n x))
  | .append, [s, x] => do
    let .slice e ← E.und (← ats[0]?) | none
    let d ← E.und (← ats[1]?)
    let i ← E.ty e
    let z ← zrow i
    match d with
    | .slice _ | .string => if 0 < i.size ∧ z.len = i.size then pure (.app e i.size i.bytes (← mo ng n s) (← mo ng n x)) else none
    | _ => none
  | .min, [x, y] => do pure (.min (← mo ng n x) (← mo ng n y))
  | .max, [x, y] => do pure (.max (← mo ng n x) (← mo ng n y))
  | .recover, [] => some .rcv
  | .copy, [x, y] => do
    let .slice e ← E.und (← ats[0]?) | none
    let _ ← E.ty e
    pure (.cpy (← mo ng n x) (← mo ng n y))
  | .unsafeSliceData, [x] => do pure (.ssd (← mo ng n x))
  | .unsafeString, [x, l] => do
    let .pointer e ← E.und (← ats[0]?) | none
    if (← E.ty e).size = 1 then pure (.ust e (← mo ng n x) (← mo ng n l)) else none
  | _, _ => none

def ccall (c : Call) : Option MOp :=
  match c.callee with
  | .builtin b => cbuiltin E ng n b c.argTypes c.args.toList
  | .value (.func f) => if E.mzf f = true then (match c.args.toList with
      | [x] => do
        let .slice e ← E.und E.mz | none
        pure (.mkz e (← mo ng n x))
      | _ => none) else do
    let k ← E.fk f
    let l ← mos ng n c.args.toList
    match k with
    | none => pure (.call f l)
    | some x => pure (.xt x l)
  | .value x => do pure (.callv (← mo ng n x) (← mos ng n c.args.toList))
  | .invoke r m => do pure (.inv (← mo ng n r) (E.mt m) (← mos ng n c.args.toList))

def isConst : Operand → Bool
  | .const _ => true
  | _ => false
def ceq (neg : Bool) (t : TypeId) (x y : Operand) : Option MOp := do
  let d ← E.und t
  let lit := isConst x || isConst y
  let a ← mo ng n x
  let b ← mo ng n y
  match d with
  | .bool => pure (.eqv neg a b lit .b)
  | .slice _ => pure (.eqv neg a b lit .s)
  | .map _ _ => pure (.eqv neg a b lit .m)
  | .func _ _ _ => pure (.eqv neg a b lit .f)
  | .interface _ => pure (.eqv neg a b lit .i)
  | .pointer e => do
    let i ← E.ty e
    pure (.eqv neg a b lit (if 0 < i.size then .p else .z))
  | _ => none

def cbin (op : BinOp) (t : TypeId) (x y : Operand) : Option MOp := do
  let d ← E.und t
  match d with
  | .int _ | .string => pure (.bin op (← mo ng n x) (← mo ng n y))
  | _ => match op with
    | .eql => ceq E ng n false t x y
    | .neq => ceq E ng n true t x y
    | _ => none

def cconv (src dst : TypeId) (x : Operand) : Option MOp := do
  let s ← E.und src
  let d ← E.und dst
  let a ← mo ng n x
  match s, d with
  | .int _, .int k => pure (.cvi k a)
  | .string, .string => pure (.cvs a)
  | .string, .slice e => do
    let .int .u8 ← E.und e | none
    pure (.cvsb e a)
  | .slice e, .string => do
    let .int .u8 ← E.und e | none
    pure (.cvbs a)
  | .slice e, .slice _ => do
    let .int .u8 ← E.und e | none
    if src = dst then pure (.cvm a) else none
  | .pointer t, .unsafePointer => do if 0 < (← E.ty t).size then pure (.cvpu a) else none
  | .unsafePointer, .pointer u => do if 0 < (← E.ty u).size then pure (.cvup (E.lies u) a) else none
  | _, _ => none

def cfield (t : TypeId) (f : Nat) : Option (Field × TypeInfo × TypeDesc) := do
  let .struct fs ← E.und t | none
  let fd ← fs[f]?
  let i ← E.ty fd.type
  let d ← E.und fd.type
  pure (fd, i, d)

/-- fields of one cell each, one behind the other, that are numbers or texts -/
def okFields : Nat → List Go.Field → Bool
  | _, [] => true
  | j, f :: fs => decide (f.name ≠ "_") && decide (f.offset = j) && (match E.und f.type with | some (.int _) | some .string => true | _ => false) && okFields (j + 1) fs
/-- the kind of a map's keys -/
def ckey (k : TypeId) : Option EK := do
  match ← E.und k with
  | .int _ => some .i
  | .string => some .s
  | .struct fs => if okFields E 0 fs.toList && E.ns k then some .z else none
  | _ => none

/-- which fields of a struct are texts -/
def cpt (k : TypeId) : List Bool := match E.und k with
  | some (.struct fs) => fs.toList.map fun f => match E.und f.type with | some .string => true | _ => false
  | _ => []

def cop (o : Oper) : Option MOp :=
  match o.op with
  | .move x | .assign x => do pure (.mv (← mo ng n x))
  | .pick c a b => do pure (.pick (← mo ng n c) (← mo ng n a) (← mo ng n b))
  | .alloc e => do pure (.alloc (← zrow (← E.ty e)) e)
  | .box e x => do pure (.box (← mo ng n x) e)
  | .build t ps => do
    let i ← E.ty t
    let .agg _ ← i.zero | none
    let z ← zrow i
    match ← E.und t with
    | .struct fs => if fs.all (fun f => (E.ty f.type).isSome) then pure (.build z (← cparts ng n (fun i => do let f ← fs[i]?; pure (f.offset, (← E.ty f.type).size)) ps.toList)) else none
    | .array _ e => do
      let s := (← E.ty e).size
      pure (.build z (← cparts ng n (fun i => some (i * s, s)) ps.toList))
    | _ => none
  | .buildSlice t len ps => do
    let .slice e ← E.und t | none
    let i ← E.ty e
    let z ← zrow i
    if len * i.size ≤ 2 ^ 24 ∧ z.len = i.size then
      pure (.bsl (z.rep len) e len (← cparts ng n (fun i' => some (i' * i.size, i.size)) ps.toList))
    else none
  | .load t a => do
    if isAggD (← E.und t) then pure (.ldn (← mo ng n a) (← E.ty t).size) else pure (.ld1 (← mo ng n a))
  | .store t a x => do
    let i ← E.ty t
    pure (.stn (← mo ng n a) (← mo ng n x) i.size)
  | .nilCheck x => do pure (.nilc (← mo ng n x))
  | .binOp op t x y _ => cbin E ng n op t x y
  | .unOp u t x => do
    match u with
    | .not => pure (.not (← mo ng n x))
    | .neg => pure (.neg (← mo ng n x))
    | .xor => pure (.cpl (← mo ng n x))
    | _ => none
  | .convert s d x => cconv E ng n s d x
  | .makeInterface t x => do
    match ← E.und t with
    | .interface _ => none
    | _ => pure (.mkif t (← mo ng n x))
  | .makeFunc (.func f) p q => do pure (.mkfn f (← mos ng n p.toList) (← mos ng n q.toList))
  | .makeMap t none => some .mkmap
  | .makeSlice t l c => do
    let .slice e ← E.und t | none
    let i ← E.ty e
    let z ← zrow i
    if 0 < i.size ∧ z.len = i.size then pure (.mksl z e i.bytes (← mo ng n l) (← mo ng n c)) else none
  | .slice t x lo hi mx => do
    match ← E.und t with
    | .string => if mx.isNone then pure (.slstr (← mo ng n x) (← mopt ng n lo) (← mopt ng n hi)) else none
    | .slice e => pure (.slsl (← E.ty e).size (← mo ng n x) (← mopt ng n lo) (← mopt ng n hi) (← mopt ng n mx))
    | _ => none
  | .fieldAddr t x f => do
    let (fd, i, _) ← cfield E t f
    if 0 < i.size then pure (.fad (← mo ng n x) fd.offset) else none
  | .field t x f => do
    let (fd, i, d) ← cfield E t f
    if isAggD d then pure (.fldn (← mo ng n x) fd.offset i.size) else pure (.fld (← mo ng n x) fd.offset)
  | .indexAddr t x i => do
    match ← E.und t with
    | .slice e => pure (.iad (← E.ty e).size (← mo ng n x) (← mo ng n i))
    | .array len e => pure (.iada (← E.ty e).size len (← mo ng n x) (← mo ng n i))
    | _ => none
  | .index t x i => do
    match ← E.und t with
    | .string => pure (.ixs (← mo ng n x) (← mo ng n i))
    | .array len e => do
      let ei ← E.ty e
      if isAggD (← E.und e) = false ∧ ei.size = 1 then pure (.ixa len (← mo ng n x) (← mo ng n i)) else none
    | _ => none
  | .lookup t x i ok => do
    let .map k e ← E.und t | none
    let z ← (← E.ty e).zero
    let kd ← ckey E k
    pure (.look (← cv z) ok kd (cpt E k) (← mo ng n x) (← mo ng n i))
  | .mapUpdate t m k v | .insert t m k v => do
    let .map kt _ ← E.und t | none
    let kd ← ckey E kt
    pure (.mup kd (cpt E kt) (← mo ng n m) (← mo ng n k) (← mo ng n v))
  | .range t x => do
    match ← E.und t with
    | .string => pure (.rng (← mo ng n x) true)
    | .map _ _ => pure (.rng (← mo ng n x) false)
    | _ => none
  | .next it s => do pure (.nxt (← mo ng n it) s)
  | .entry it => do pure (.ent (← mo ng n it))
  | .typeAssert x _ t ok => do
    let z ← (← E.ty t).zero
    match ← E.und t with
    | .interface _ => none
    | _ => pure (.tas (← mo ng n x) t (← cv z) ok)
  | .extract x i => do pure (.ext (← mo ng n x) i)
  | .call c => ccall E ng n c
  | .defer c => match c.callee with
    | .value x => do pure (.dfr (← mo ng n x) (← mos ng n c.args.toList))
    | _ => none
  | .panic x => do pure (.pnc (← mo ng n x))
  | _ => none

end
end Go.Ev
end

section
set_option linter.unusedVariables false
namespace Go.Ev

/-- does an operation touch memory? (false: its result hangs on its operands alone, and no block is made) -/
def MOp.loud : MOp → Bool
  | .mv _ | .pick .. | .build .. | .nilc _ | .bin .. | .not _ | .neg _ | .cvi .. | .cvs _ | .mkif .. | .mkfn .. | .slstr .. | .slsl .. | .fad .. | .fld .. | .fldn .. | .iad .. | .iada .. | .ixs .. | .ixa .. | .ext .. | .cap _ | .min .. | .max .. | .cpl _ => false
  | .len .b _ | .len .s _ => false
  | .eqv _ _ _ _ .b | .eqv _ _ _ _ .s | .eqv _ _ _ _ .m | .eqv _ _ _ _ .f | .eqv _ _ _ _ .i | .eqv _ _ _ _ .z => false
  | _ => true
/-- one that reads, and turns nothing -/
def MOp.rd : MOp → Bool
  | .ld1 _ | .ldn .. | .look .. | .cvbs _ | .eqv _ _ _ _ .p => true
  | _ => false
/-- one that makes a block, and reads nothing -/
def MOp.nw : MOp → Bool
  | .alloc .. | .box .. | .bsl .. | .mkmap | .mksl .. => true
  | _ => false
def MOp.wr (m : MOp) : Bool := m.loud && (!m.rd && !m.nw)
def MOper.op : MOper → MOp
  | .mk _ m _ => m

def MOp.isCall : MOp → Bool
  | .call .. | .callv .. | .inv .. => true
  | _ => false
def isCallOp : Op → Bool
  | .call _ => true
  | _ => false

def MOp.isD : MOp → Bool
  | .dfr .. => true
  | _ => false
def isDefOp : Op → Bool
  | .defer _ => true
  | _ => false
def MOp.fits (m : MOp) (o : Op) : Bool := (!m.isCall || isCallOp o) && (!m.isD || isDefOp o)

section
variable (E : Env) (ng n : Nat)

def cdst : Option Tmp → Option MD
  | none => some .none
  | some t => (sl n t).map .some
def cguard (ops : Array Oper) : Option (Nat × Bool) → Option MG
  | none => some .none
  | some (j, want) => match (ops[j]?).bind (·.dst) with
    | some t => (sl n t).map fun s => .some s want
    | none => none
def coper (ops : Array Oper) (o : Oper) : Option MOper :=
  match cdst n o.dst, cop E ng n o, cguard n ops o.guard with
  | some d, some m, some g => if m.fits o.op = true then some (.mk d m g) else none
  | _, _, _ => none
def copers (ops : Array Oper) : List Oper → Option (List MOper)
  | [] => some []
  | o :: l => match coper E ng n ops o, copers ops l with
    | some a, some l => some (a :: l)
    | _, _ => none

/-- those ahead of each: a list of them, none wrongly there -/
def direct (o : Oper) : List Nat := (o.after.toList.filter (Region.binds .any)).map (·.on)
/-- a row of bits: those ahead -/
def bitsOf (acc : List Nat) : List Nat → Nat
  | [] => 0
  | i :: l => Nat.lor (Nat.lor (Nat.shiftLeft 1 i) (acc.getD i 0)) (bitsOf acc l)
def predsGo : List Oper → List Nat → List Nat
  | [], acc => acc
  | o :: l, acc => predsGo l (acc ++ [bitsOf acc (direct o)])
def preds (ops : Array Oper) : List Nat := predsGo ops.toList []
def ahead (pr : List Nat) (i j : Nat) : Bool := Nat.testBit (pr.getD j 0) i
def isDfr : MOper → Bool
  | .mk _ (.dfr ..) _ => true
  | _ => false
/-- is an operation of a list one of these? -/
def isWr (ms : List MOper) (j : Nat) : Bool := match ms[j]? with
  | some m => m.op.wr
  | none => false
def isLoud (ms : List MOper) (j : Nat) : Bool := match ms[j]? with
  | some m => m.op.loud
  | none => true
def isRd (ms : List MOper) (j : Nat) : Bool := match ms[j]? with
  | some m => m.op.rd
  | none => false
/-- an order of reckoning: those that may turn memory as early as may be -/
def emit (pr : List Nat) (n : Nat) (acc : List Nat) (j : Nat) : List Nat :=
  acc ++ (List.range n).filter fun i => (i == j || ahead pr i j) && !acc.contains i
def order (pr : List Nat) (ms : List MOper) (n : Nat) : List Nat :=
  (List.range n).foldl (emit pr n) (((List.range n).filter (isWr ms)).foldl (emit pr n) [])
/-- may two operations stand in this order, whichever is drawn? -/
def pairOK (ops : Array Oper) (pr : List Nat) (ms : List MOper) (i j : Nat) : Bool :=
  i != j && (match ops[i]?, ops[j]? with
    | some x, some o => !(direct x).contains j && (ahead pr i j || (x.apart ops o && (!isLoud ms i || !isLoud ms j || !isWr ms j)))
    | _, _ => false)
def pairsOK (ops : Array Oper) (pr : List Nat) (ms : List MOper) : List Nat → Bool
  | [] => true
  | i :: l => l.all (pairOK ops pr ms i) && pairsOK ops pr ms l
/-- what a region that draws its order must keep -/
def drawOK (ops : Array Oper) (pr : List Nat) (ms : List MOper) (od : List Nat) : Bool :=
  pairsOK ops pr ms od && od.all (fun j => decide (j < ops.size)) && (List.range ops.size).all (fun j => od.contains j) &&
  (List.range ops.size).all fun j => match ops[j]? with
    | some o => !(direct o).contains j && (direct o).all fun i => decide (i < ops.size)
    | none => false
/-- how far back the first of those ahead lies that a reading one must look out for -/
def bound (pr : List Nat) (ms : List MOper) (j : Nat) : List Nat → Nat → Option Nat
  | [], _ => none
  | i :: l, d => match bound pr ms j l (d + 1) with
    | some q => some q
    | none => if isRd ms j && !ahead pr i j && isLoud ms i && !isRd ms i then some d else none
def cdraw (pr : List Nat) (ms : List MOper) : List Nat → List Nat → Option (List MDr)
  | _, [] => some []
  | back, j :: l => match ms[j]?, cdraw pr ms (j :: back) l with
    | some m, some r => some (.mk j m (bound pr ms j back 0) :: r)
    | _, _ => none

def csls : List Tmp → Option (List Sl)
  | [] => some []
  | t :: l => match sl n t, csls l with
    | some a, some l => some (a :: l)
    | _, _ => none

/-- a code's first loop over a function; how many there are; are they all this one? -/
def rf1 : Code → Option (Array Tmp × Code × Code)
  | .seq a b => match rf1 a with | some x => some x | none => rf1 b
  | .cond _ a b => match rf1 a with | some x => some x | none => rf1 b
  | .block _ c => rf1 c
  | .loop c => rf1 c
  | .rangeFunc _ ps a b => some (ps, a, b)
  | .scope c => rf1 c
  | _ => none
def rfN : Code → Nat
  | .seq a b => rfN a + rfN b
  | .cond _ a b => rfN a + rfN b
  | .block _ c => rfN c
  | .loop c => rfN c
  | .rangeFunc _ _ a b => 1 + (rfN a + rfN b)
  | .scope c => rfN c
  | _ => 0
def rfAll (p : Option (Array Tmp × Code × Code)) : Code → Prop
  | .seq a b => rfAll p a ∧ rfAll p b
  | .cond _ a b => rfAll p a ∧ rfAll p b
  | .block _ c => rfAll p c
  | .loop c => rfAll p c
  | .rangeFunc _ ps a b => p = some (ps, a, b)
  | .scope c => rfAll p c
  | _ => True
theorem rfAll_none (p : Option (Array Tmp × Code × Code)) : ∀ {c : Code}, rfN c = 0 → rfAll p c := by
  intro c
  induction c with
  | seq a b iha ihb => intro h; simp only [rfN] at h; exact ⟨iha (by omega), ihb (by omega)⟩
  | cond x a b iha ihb => intro h; simp only [rfN] at h; exact ⟨iha (by omega), ihb (by omega)⟩
  | block i c ih => exact ih
  | loop c ih => exact ih
  | scope c ih => exact ih
  | rangeFunc f ps a b => intro h; simp only [rfN] at h; omega
  | _ => exact fun _ => trivial
theorem rf1_none : ∀ {c : Code}, rfN c = 0 → rf1 c = none := by
  intro c
  induction c with
  | seq a b iha ihb => intro h; simp only [rfN] at h; simp only [rf1, iha (by omega), ihb (by omega)]
  | cond x a b iha ihb => intro h; simp only [rfN] at h; simp only [rf1, iha (by omega), ihb (by omega)]
  | block i c ih => exact ih
  | loop c ih => exact ih
  | scope c ih => exact ih
  | rangeFunc f ps a b => intro h; simp only [rfN] at h; omega
  | _ => exact fun _ => rfl
theorem rfAll_one : ∀ {c : Code}, rfN c ≤ 1 → rfAll (rf1 c) c := by
  intro c
  have two : ∀ {a b : Code}, (rfN a ≤ 1 → rfAll (rf1 a) a) → (rfN b ≤ 1 → rfAll (rf1 b) b) → rfN a + rfN b ≤ 1 → rfAll (match rf1 a with | some x => some x | none => rf1 b) a ∧ rfAll (match rf1 a with | some x => some x | none => rf1 b) b := by
    intro a b iha ihb h
    by_cases ha : rfN a = 0
    · rw [rf1_none ha]
      exact ⟨rfAll_none _ ha, ihb (by omega)⟩
    · have hb : rfN b = 0 := by omega
      have e : (match rf1 a with | some x => some x | none => rf1 b) = rf1 a := by
        cases rf1 a with
        | some x => rfl
        | none => exact rf1_none hb
      rw [e]
      exact ⟨iha (by omega), rfAll_none _ hb⟩
  induction c with
  | seq a b iha ihb => exact two iha ihb
  | cond x a b iha ihb => exact two iha ihb
  | block i c ih => exact ih
  | loop c ih => exact ih
  | scope c ih => exact ih
  | rangeFunc f ps a b => exact fun _ => rfl
  | _ => exact fun _ => trivial
/-- a function's loop over a function, with its frame's size -/
def lpOf (P : Program) (g : Nat) : Option (Nat × Array Tmp × Code × Code) := match P.funcs[g]? with
  | none => none
  | some fn => match fn.body with
    | none => none
    | some c => match rf1 c with
      | none => none
      | some (ps, a, b) => some (fn.ntmps, ps, a, b)

/-- a loop over an iterator's entries: the iterator, what a round's answer goes to, whether there is one, the code behind -/
def hvPat : Code → Option (Tmp × Tmp × Tmp × Nat × Nat × Code)
  | .seq (.region _ ops false) (.seq (.cond (.tmp t3) .skip (.exit id)) (.block id2 B)) => match ops.toList with
    | [o1, o2] => match o1.op, o1.dst, o1.guard, o2.op, o2.dst, o2.guard with
      | .next (.tmp it) false, some t1, none, .extract (.tmp t1') 0, some t2, none => if t1' = t1 ∧ t2 = t3 ∧ t1 ≠ t2 then some (it, t1, t2, id, id2, B) else none
      | _, _, _, _, _, _ => none
    | _ => none
  | _ => none
/-- the same loop, where any order of the entries comes to the same: what is written beside is not looked at -/
def hvMC (E : Env) (n g : Nat) (c : Code) (x : MC) : Option MC := match E.hv g, hvPat c, x with
  | some (t, off, l), some (it, t1, t2, id, id2, _), .seq _ (.seq _ (.block _ mb)) => match sl n it, sl n t1, sl n t2, sl n t, csls n l with
    | some a, some b, some c, some d, some l => some (.hloop a b c d off l id id2 mb)
    | _, _, _, _, _ => none
  | _, _, _ => none

variable (g : Nat)
def compC : Code → Option MC
  | .skip => some .skip
  | .region _ ops draw => match copers E ng n ops ops.toList with
    | none => some .bad
    | some ms => if draw then (if drawOK ops (preds ops) ms (order (preds ops) ms ops.size) then (match cdraw (preds ops) ms [] (order (preds ops) ms ops.size) with
        | some l => some (.draw l)
        | none => some .bad) else some .bad) else (if ms.any isDfr then some (.dreg ms) else some (.reg ms))
  | .seq a b => match compC a, compC b with
    | some x, some y => some (.seq x y)
    | _, _ => none
  | .cond c a b => match mo ng n c, compC a, compC b with
    | some c, some x, some y => some (.cond c x y)
    | _, _, _ => none
  | .block id c => match compC c with
    | some x => some (.block id x)
    | none => none
  | .loop c => match compC c with
    | some x => match hvMC E n g c x with
      | some y => some y
      | none => some (.loop x)
    | none => none
  | .rangeFunc f _ _ _ => match mo ng n f with
    | some f => some (.rf g f)
    | none => none
  | .exit id => some (.exit id)
  | .scope c => match compC c with
    | some x => some (.scope x)
    | none => none
  | .label l => some (.label l)
  | .goto l => some (.goto l)
  | .ret => some .ret
  | .refuse _ => some .bad

inductive MR where
  | s (x : Sl)
  | c1 (x : Sl)
  | cn (x : Sl) (n : Nat)
inductive MF where
  | mk (n : Nat) (body : MC) (res : List MR)
  | dk (n : Nat) (s : Sl) (body : MC) (res : List MR)
/-- a deferred function that begins with recover: the temporary, what follows -/
def recHead : Code → Option (Tmp × Code)
  | .seq (.region _ ops false) c => match ops.toList with
    | [o] => match o.op, o.guard, o.dst with
      | .call c', none, some t => match c'.callee with
        | .builtin .recover => some (t, c)
        | _ => none
      | _, _, _ => none
    | _ => none
  | _ => none
def cres : List ResultVar → Option (List MR)
  | [] => some []
  | r :: l => match (match r with
      | .tmp t => (sl n t).map .s
      | .cell t ty => do
        let x ← sl n t
        if isAggD (← E.und ty) then pure (.cn x (← E.ty ty).size) else pure (.c1 x)), cres l with
    | some a, some l => some (a :: l)
    | _, _ => none
end
def compF (E : Env) (ng g : Nat) (fn : Func) : Option MF :=
  match fn.body with
  | none => none
  | some c => if rfN c ≤ 1 ∧ fn.ntmps ≤ 343 then (match recHead c with
    | some (t, c') => match sl fn.ntmps t, compC E ng fn.ntmps g c', cres E fn.ntmps fn.results.toList with
      | some s, some m, some r => some (.dk fn.ntmps s m r)
      | _, _, _ => none
    | none => match compC E ng fn.ntmps g c, cres E fn.ntmps fn.results.toList with
      | some m, some r => some (.mk fn.ntmps m r)
      | _, _ => none) else none
/-- a function's loop over a function, for the kernel -/
def compR (E : Env) (P : Program) (ng g : Nat) : Option MRf := match lpOf P g with
  | none => none
  | some (n, ps, a, b) => if rfN a = 0 ∧ rfN b = 0 then (match csls n ps.toList, compC E ng n g a, compC E ng n g b with
    | some ps, some x, some y => some (.mk n ps x y)
    | _, _, _ => none) else none
end Go.Ev
end

section
set_option linter.unusedVariables false
namespace Go.Ev
open Classical

inductive Jump where
  | none | ret | exit (id : Nat) | goto (l : Nat)
def Jump.code : Jump → Option Code
  | .none => Option.none
  | .ret => some .ret
  | .exit id => some (.exit id)
  | .goto l => some (.goto l)

/-- a block: cells (the element's type; how many of the first may be frozen; is none; does it begin with the model's block), a map, a loop's record, .. -/
inductive Blk where
  | cells (cs : AV) (el fz : Nat) (pure z : Bool)
  | map (es : Ents) (clock : Nat)
  | loop (st : LoopState) (pend : Jump) (fr : Fr) (g d : Nat)
  | defd (op : Bool)
  | mit (m : Nat) (since : Nat) (seen : List Nat) (stepped : Nat)
  | mitL (m born stepped : Nat)
  | nit
  | sit (s : List Nat) (pos : Nat)
structure Bl where
  ts : Nat
  ro : Bool
  c : Blk
abbrev Hp := Nat → Option Bl
structure H where
  t : T Bl
  next : Nat
  clk : Nat
def H.get (h : H) : Hp := h.t.get

/-- operations that facts speak of -/
inductive FOp where
  | bin (o : BinOp) | cvi (k : IntKind) | neg | min | max | itoa
  deriving DecidableEq
/-- a number, known or not -/
inductive FA where
  | s (i : Nat) | c (k : IntKind) (z : Int)
  deriving DecidableEq
def FA.av : FA → AV
  | .s i => .sym i
  | .c k z => .int k z
/-- a fact on values that are not known: what an operation on them gives -/
structure Fact where
  o : FOp
  x : FA
  y : FA
  v : AV
def FactOK (σ : Sig) (e : Fact) : Prop := ∀ k i k' j, V σ e.x.av (.int k i) → V σ e.y.av (.int k' j) → match e.o with
  | .bin o => ∃ u, V σ e.v u ∧ ∀ P t w, (binOp o t (.int k i) (.int k' j)).run P w = .ok u w
  | .cvi q => V σ e.v (.int q (q.wrap i))
  | .neg => V σ e.v (.int k (k.wrap (0 - i)))
  | .min => V σ e.v (.int k (if j < i then j else i))
  | .max => V σ e.v (.int k (if i < j then j else i))
  | .itoa => k = .i64 ∧ -9223372036854775808 ≤ i ∧ i ≤ 9223372036854775807 ∧ V σ e.v (.string ⟨(Lib.itoa i).toArray⟩)
theorem FA.mono {σ τ : Sig} (h : τ.sym = σ.sym) {x : FA} {v : Value} (hv : V τ x.av v) : V σ x.av v := by
  cases x with
  | s i => simp only [FA.av, V, R] at hv ⊢; rw [← h]; exact hv
  | c k z => exact hv
theorem FA.int {σ : Sig} {x : FA} {v : Value} (hv : V σ x.av v) : ∃ k z, v = .int k z := by
  cases x with
  | s i => obtain ⟨k, z, e⟩ := σ.sym.val_int i; exact ⟨k, z, by rw [← e]; exact hv⟩
  | c k z => exact ⟨k, z, hv⟩
theorem FactOK.mono {σ τ : Sig} (hs : σ.le τ) {e : Fact} (h : FactOK σ e) : FactOK τ e := by
  intro k i k' j hx hy
  have := h k i k' j (FA.mono hs.2 hx) (FA.mono hs.2 hy)
  revert this
  cases e.o with
  | bin o => exact fun ⟨u, h1, h2⟩ => ⟨u, h1.mono hs, h2⟩
  | itoa => exact fun ⟨h1, h2, h3, h4⟩ => ⟨h1, h2, h3, h4.mono hs⟩
  | _ => exact fun h => V.mono h hs
/-- the program, what is known of it, how many variables it has -/
structure Cx where
  P : Program
  E : Env
  ng : Nat
  ok : EnvOK P E
  fc : List Fact
  gn : Nat → Nat
  rt : T MRf
  rtok : ∀ g r, rt.get g = some r → compR E P ng g = some r
/-- what holds of the places all along -/
structure Sane (X : Cx) (σ : Sig) : Prop where
  glob : ∀ g, g < X.ng → ∃ B, σ.bk g = some B ∧ B.r = g ∧ B.o = 0
  fact : ∀ e ∈ X.fc, FactOK σ e
  gsz : ∀ g, g < X.ng → ∀ B, σ.bk g = some B → B.n = X.gn g
theorem Sane.mono {X : Cx} {σ τ : Sig} (h : Sane X σ) (hs : σ.le τ) : Sane X τ :=
  ⟨fun g hg => let ⟨B, h1, h2⟩ := h.glob g hg; ⟨B, hs.1 _ _ h1, h2⟩,
   fun e he => (h.fact e he).mono hs,
   fun g hg B hB => by
    obtain ⟨B', h1, _⟩ := h.glob g hg
    have := hs.1 _ _ h1
    rw [hB] at this; cases this
    exact h.gsz g hg _ h1⟩

variable (X : Cx)

/-- a block of cells; of what type they are is told where el is not 0 -/
def CellsAt (w : World) (r : Nat) (C : Array Value) (el : TypeId) (fr : Nat × Nat) : Prop := ∃ q, w.heap[r]? = some (.cells C q fr) ∧ (el ≠ 0 → q = el)
theorem CellsAt.mk {w : World} {r : Nat} {C : Array Value} {el : TypeId} {fr : Nat × Nat} (h : w.heap[r]? = some (.cells C el fr)) : CellsAt w r C el fr := ⟨el, h, fun _ => rfl⟩
theorem CellsAt.turn {w w' : World} {r : Nat} {C : Array Value} {el : TypeId} {fr : Nat × Nat} (h : CellsAt w r C el fr) (hw : w'.heap[r]? = w.heap[r]?) : CellsAt w' r C el fr := let ⟨q, h1, h2⟩ := h; ⟨q, by rw [hw]; exact h1, h2⟩
def RelC (σ : Sig) (w : World) (B : Bk) : Blk → Prop
  | .cells cs el fz p z => ∃ C fr, CellsAt w B.r C el fr ∧ B.o + B.n = C.size ∧
      (∃ vs, VL σ cs vs ∧ vs.length ≤ B.n ∧ ∀ i v, vs[i]? = some v → C[B.o + i]? = some v) ∧
      (∀ i, fz ≤ i → i < B.n → ¬ (fr.1 ≤ B.o + i ∧ B.o + i < fr.2)) ∧ (p = true → fr.1 = fr.2) ∧ (z = true → B.o = 0)
  | .map es clock => ∃ ES, w.heap[B.r]? = some (.map ES clock) ∧ EL σ es ES.toList
  | .loop st pend fr g d => ∃ L n D, w.heap[B.r]? = some (.loop L) ∧ L.state = st ∧ L.pending = pend.code ∧ RF σ n fr L.tmps ∧
      lpOf X.P g = some (n, L.params, L.assign, L.body) ∧ σ.bk d = some D ∧ L.defers = D.r
  | .defd op => w.heap[B.r]? = some (.deferred (if op = true then some [] else none))
  | .mit m since seen stepped => B.o = 0 ∧ ∃ M, σ.bk m = some M ∧ w.heap[B.r]? = some (.mapIter (some M.r) since seen.toArray stepped)
  | .mitL m born stepped => B.o = 0 ∧ ∃ M since seen, σ.bk m = some M ∧ w.heap[B.r]? = some (.mapIter (some M.r) since seen stepped) ∧ seen.back? = some born
  | .nit => B.o = 0 ∧ w.heap[B.r]? = some (.mapIter none 0 #[] 0)
  | .sit s pos => B.o = 0 ∧ ∃ t, nums t = s.map σ.sym.bv ∧ w.heap[B.r]? = some (.stringIter t pos)
def RelB (σ : Sig) (w : World) (b : Nat) (x : Blk) : Prop := ∃ B, σ.bk b = some B ∧ RelC X σ w B x

theorem RelC.mono {X : Cx} {σ τ : Sig} {w : World} {B : Bk} {x : Blk} (h : RelC X σ w B x) (hs : σ.le τ) : RelC X τ w B x := by
  cases x with
  | cells cs el fz p z =>
    obtain ⟨C, fr, h2, h3, ⟨vs, h4, h5⟩, h6⟩ := h
    exact ⟨C, fr, h2, h3, ⟨vs, h4.mono hs, h5⟩, h6⟩
  | map es clock =>
    obtain ⟨ES, h1, h2⟩ := h
    exact ⟨ES, h1, h2.mono hs⟩
  | loop st pend fr g d =>
    obtain ⟨L, n, D, h1, h2, h3, h4, h5, h8, h9⟩ := h
    exact ⟨L, n, D, h1, h2, h3, h4.mono hs, h5, hs.1 _ _ h8, h9⟩
  | defd op => exact h
  | mit m since seen stepped =>
    obtain ⟨h0, M, h1, h2⟩ := h
    exact ⟨h0, M, hs.1 _ _ h1, h2⟩
  | mitL m born stepped =>
    obtain ⟨h0, M, since, seen, h1, h2⟩ := h
    exact ⟨h0, M, since, seen, hs.1 _ _ h1, h2⟩
  | nit => exact h
  | sit s pos =>
    obtain ⟨h0, t, h1, h2⟩ := h
    exact ⟨h0, t, by rw [hs.2]; exact h1, h2⟩
theorem RelC.turn {X : Cx} {σ : Sig} {w w' : World} {B : Bk} {x : Blk} (h : RelC X σ w B x) (hw : w'.heap[B.r]? = w.heap[B.r]?) : RelC X σ w' B x := by
  cases x with
  | cells cs el fz p z => obtain ⟨C, fr, h1, h2⟩ := h; exact ⟨C, fr, h1.turn hw, h2⟩
  | _ => simp only [RelC] at h ⊢; rw [hw]; exact h
theorem RelC.lt {X : Cx} {σ : Sig} {w : World} {B : Bk} {x : Blk} (h : RelC X σ w B x) : B.r < w.heap.size := by
  have key : ∀ o, w.heap[B.r]? = some o → B.r < w.heap.size := fun o ho => (Array.getElem?_eq_some_iff.1 ho).1
  cases x with
  | cells cs el fz p z => obtain ⟨C, fr, ⟨q, h2, _⟩, _⟩ := h; exact key _ h2
  | map es clock => obtain ⟨ES, h1, _⟩ := h; exact key _ h1
  | loop st pend fr g d => obtain ⟨L, n, D, h1, _⟩ := h; exact key _ h1
  | defd op => exact key _ h
  | mit m since seen stepped => obtain ⟨_, M, _, h2⟩ := h; exact key _ h2
  | mitL m born stepped => obtain ⟨_, M, since, seen, _, h2, _⟩ := h; exact key _ h2
  | nit => exact key _ h.2
  | sit s pos => obtain ⟨_, t, _, h2⟩ := h; exact key _ h2
theorem RelB.mono {X : Cx} {σ τ : Sig} {w : World} {b : Nat} {x : Blk} (h : RelB X σ w b x) (hs : σ.le τ) : RelB X τ w b x :=
  let ⟨B, h1, h2⟩ := h; ⟨B, hs.1 _ _ h1, h2.mono hs⟩

structure Ok (σ : Sig) (G : Hp) (w : World) : Prop where
  rel : ∀ b x, G b = some x → RelB X σ w b x.c
  sep : ∀ b b' B B' x x', b ≠ b' → G b = some x → G b' = some x' → σ.bk b = some B → σ.bk b' = some B' → B.r ≠ B'.r
  sane : Sane X σ

/-- the model's blocks that may be written -/
def Owned (σ : Sig) (G : Hp) (r : Nat) : Prop := ∃ b x B, G b = some x ∧ x.ro = false ∧ σ.bk b = some B ∧ B.r = r

structure Post (σ : Sig) (G : Hp) (w : World) (lo hi : Nat) (τ : Sig) (G' : Hp) (w' : World) : Prop where
  le : σ.le τ
  out : ∀ b, ¬ (lo ≤ b ∧ b < hi) → τ.bk b = σ.bk b
  ok : Ok X τ G' w'
  os : w'.os = w.os
  tape : w'.tape = w.tape
  output : w'.output = w.output
  size : w.heap.size ≤ w'.heap.size
  frame : ∀ r, r < w.heap.size → ¬ Owned σ G r → w'.heap[r]? = w.heap[r]?
  own : ∀ r, Owned τ G' r → Owned σ G r ∨ w.heap.size ≤ r

theorem Post.refl {X : Cx} {σ : Sig} {G : Hp} {w : World} (h : Ok X σ G w) (n : Nat) : Post X σ G w n n σ G w :=
  ⟨.refl _, fun _ _ => rfl, h, rfl, rfl, rfl, Nat.le_refl _, fun _ _ _ => rfl, fun _ h => .inl h⟩
theorem Post.trans {X : Cx} {σ τ υ : Sig} {G G' G'' : Hp} {w w' w'' : World} {a b c : Nat} (h : Post X σ G w a b τ G' w') (k : Post X τ G' w' b c υ G'' w'') (hab : a ≤ b) (hbc : b ≤ c) :
    Post X σ G w a c υ G'' w'' :=
  ⟨h.le.trans k.le, fun i hi => (k.out i (by omega)).trans (h.out i (by omega)), k.ok, k.os.trans h.os, k.tape.trans h.tape, k.output.trans h.output, Nat.le_trans h.size k.size,
   fun r hr hn => (k.frame r (Nat.lt_of_lt_of_le hr h.size) (fun ho => (h.own r ho).elim hn (fun hs => by omega))).trans (h.frame r hr hn),
   fun r ho => (k.own r ho).elim (fun ho => h.own r ho) (fun hs => .inr (Nat.le_trans h.size hs))⟩

/-- changes: blocks that are turned, made or given up -/
abbrev Ch := Nat → Option (Option Bl)
def app (W : Ch) (G : Hp) : Hp := fun b => (W b).getD (G b)
def Ext (G D : Hp) : Prop := ∀ b x, D b = some x → G b = some x
/-- what turns h to h' -/
noncomputable def diff (h h' : Hp) : Ch := fun b => if h' b = h b then none else some (h' b)
/-- no change -/
def noCh : Ch := fun _ => none
@[simp] theorem app_no (G : Hp) : app noCh G = G := rfl
/-- one block -/
def one (b : Nat) (x : Option Bl) : Ch := fun c => if c = b then some x else none
theorem app_one (b : Nat) (x : Option Bl) (G : Hp) (c : Nat) : app (one b x) G c = if c = b then x else G c := by
  unfold app one; split <;> rfl
theorem app_diff (h h' : Hp) : app (diff h h') h = h' := by
  funext b; unfold app diff; split
  · rename_i e; exact e.symm
  · rfl
theorem Ext.refl (G : Hp) : Ext G G := fun _ _ h => h

end Go.Ev
end

section
set_option linter.unusedVariables false
namespace Go.Ev

/-! ### numbers -/
noncomputable def fI (n : Int) (K : Int → Bool) : Bool := Int.rec (motive := fun _ => Bool) (fun m => fN m fun m => K (.ofNat m)) (fun m => fN m fun m => K (.negSucc m)) n
@[simp] theorem fI_eq (n : Int) (K : Int → Bool) : fI n K = K n := by cases n <;> simp [fI]

/-- is a number one of a kind's? -/
noncomputable def inK (k : IntKind) (n : Int) : Bool :=
  Int.rec (motive := fun _ => Bool)
    (fun m => IntKind.rec (motive := fun _ => Bool) (Nat.ble m 127) (Nat.ble m 32767) (Nat.ble m 2147483647) (Nat.ble m 9223372036854775807) (Nat.ble m 255) (Nat.ble m 65535) (Nat.ble m 4294967295) (Nat.ble m 18446744073709551615) k)
    (fun m => IntKind.rec (motive := fun _ => Bool) (Nat.ble m 127) (Nat.ble m 32767) (Nat.ble m 2147483647) (Nat.ble m 9223372036854775807) false false false false k) n
theorem wrapS {b : Nat} {n : Int} (h1 : -(2 ^ (b - 1) : Int) ≤ n) (h2 : n < (2 ^ (b - 1) : Int)) (hb : (2 ^ b : Int) = 2 * 2 ^ (b - 1)) (hp : (0 : Int) < 2 ^ (b - 1)) :
    (if (true && decide (n % (2 ^ b : Int) ≥ (2 ^ (b - 1) : Int))) = true then n % (2 ^ b : Int) - (2 ^ b : Int) else n % (2 ^ b : Int)) = n := by
  rw [Bool.true_and, hb]
  generalize (2 ^ (b - 1) : Int) = p at *
  rcases (by omega : n < 0 ∨ 0 ≤ n) with h | h
  · have e : n % (2 * p) = n + 2 * p := by
      rw [← Int.add_mul_emod_self_left n (2 * p) 1, Int.emod_eq_of_lt] <;> omega
    rw [e, if_pos (decide_eq_true (by omega))]; omega
  · have e : n % (2 * p) = n := Int.emod_eq_of_lt h (by omega)
    rw [e, if_neg (by simp; omega)]
theorem wrapU {b : Nat} {n : Int} (h1 : 0 ≤ n) (h2 : n < (2 ^ b : Int)) : (if (false && decide (n % (2 ^ b : Int) ≥ (2 ^ (b - 1) : Int))) = true then n % (2 ^ b : Int) - (2 ^ b : Int) else n % (2 ^ b : Int)) = n := by
  rw [Bool.false_and, if_neg (by simp)]
  exact Int.emod_eq_of_lt h1 h2
theorem inK_wrap {k : IntKind} {n : Int} (h : inK k n = true) : k.wrap n = n := by
  cases n with
  | ofNat m =>
    have hm : (Int.ofNat m) = (m : Int) := rfl
    rw [hm]
    cases k <;> (simp only [inK] at h; have h := Nat.le_of_ble_eq_true h)
    · exact wrapS (b := 8) (by omega) (by omega) (by decide) (by decide)
    · exact wrapS (b := 16) (by omega) (by omega) (by decide) (by decide)
    · exact wrapS (b := 32) (by omega) (by omega) (by decide) (by decide)
    · exact wrapS (b := 64) (by omega) (by omega) (by decide) (by decide)
    · exact wrapU (b := 8) (by omega) (by omega)
    · exact wrapU (b := 16) (by omega) (by omega)
    · exact wrapU (b := 32) (by omega) (by omega)
    · exact wrapU (b := 64) (by omega) (by omega)
  | negSucc m =>
    have hm : (Int.negSucc m) = -(m : Int) - 1 := by omega
    cases k <;> simp only [inK] at h <;> first | cases h | (have h := Nat.le_of_ble_eq_true h)
    · rw [hm]; exact wrapS (b := 8) (by omega) (by omega) (by decide) (by decide)
    · rw [hm]; exact wrapS (b := 16) (by omega) (by omega) (by decide) (by decide)
    · rw [hm]; exact wrapS (b := 32) (by omega) (by omega) (by decide) (by decide)
    · rw [hm]; exact wrapS (b := 64) (by omega) (by omega) (by decide) (by decide)
noncomputable def wK (k : IntKind) (n : Int) (K : Int → Bool) : Bool := fI n fun n => sel (inK k n) (K n) (fI (k.wrap n) K)
theorem wK_eq (k : IntKind) (n : Int) (K : Int → Bool) : wK k n K = K (k.wrap n) := by
  simp only [wK, fI_eq]
  cases h : inK k n
  · rfl
  · rw [sel_true, inK_wrap h]

/-! ### operands -/
def MO.val (fr : Fr) : MO → AV
  | .t s => F3.at fr s
  | .c v => v
noncomputable def MO.getK (m : MO) (fr : Fr) (k : AV → Bool) : Bool := MO.rec (motive := fun _ => Bool) (fun s => F3.getK s fr k) (fun v => k v) m
theorem MO.getK_eq (m : MO) (fr : Fr) (k : AV → Bool) : m.getK fr k = k (m.val fr) := by
  cases m with
  | t s => exact F3.getK_eq s fr k
  | c v => rfl
def rowV (fr : Fr) : List MO → AV
  | [] => .nil
  | x :: l => .cons (x.val fr) (rowV fr l)
noncomputable def rowK (fr : Fr) (l : List MO) (k : AV → Bool) : Bool :=
  List.rec (motive := fun _ => (AV → Bool) → Bool) (fun k => k .nil) (fun x _ ih k => x.getK fr fun a => ih fun r => k (.cons a r)) l k
theorem rowK_eq (fr : Fr) : ∀ (l : List MO) (k : AV → Bool), rowK fr l k = k (rowV fr l)
  | [], k => rfl
  | x :: l, k => by
    show x.getK fr _ = _
    rw [MO.getK_eq]
    exact rowK_eq fr l _

/-- the temporaries that an operation reads -/
def Lop (o : Oper) (t : Tmp) : Prop := Operand.tmp t ∈ o.op.operands
/-- a frame's slots against the model's, as far as they are read; the variables' blocks at hand -/
structure Fit (X : Cx) (σ : Sig) (n : Nat) (fr : Fr) (a : Act) (L : Tmp → Prop) : Prop where
  slot : ∀ t, L t → t < n → V σ (F3.at fr (Ev.slot t)) (a.tmps.getD t undef)
  sane : Sane X σ

variable {X : Cx} {σ : Sig} {n : Nat} {fr : Fr} {a : Act} {w : World} {L : Tmp → Prop}

theorem RF.slot (h : RF σ n fr a.tmps) {t : Tmp} (ht : t < n) : V σ (F3.at fr (Ev.slot t)) (a.tmps.getD t undef) := by
  have hs := h.size
  have hlt : t < a.tmps.size := hs ▸ ht
  have := h.all t hlt
  simpa [Array.getD, hlt] using this
theorem RF.fit (h : RF σ n fr a.tmps) (hs : Sane X σ) : Fit X σ n fr a L := ⟨fun _ _ ht => h.slot ht, hs⟩
theorem Fit.weak {L' : Tmp → Prop} (h : Fit X σ n fr a L) (hl : ∀ t, L' t → L t) : Fit X σ n fr a L' := ⟨fun t h1 h2 => h.slot t (hl t h1) h2, h.sane⟩
theorem mo_V {x : Operand} {m : MO} (hm : mo X.ng n x = some m) (h : Fit X σ n fr a L) (hx : ∀ t, x = .tmp t → L t) : V σ (m.val fr) (a.eval x) := by
  cases x with
  | tmp t =>
    simp only [mo] at hm
    split at hm
    · rename_i ht
      cases hm
      exact h.slot t (hx t rfl) ht.1
    · cases hm
  | const v =>
    simp only [mo, Option.map_eq_some_iff] at hm
    obtain ⟨c, hc, rfl⟩ := hm
    exact cv_V hc
  | global g =>
    simp only [mo] at hm
    split at hm
    · rename_i hg
      cases hm
      obtain ⟨B, hB, hr, ho⟩ := h.sane.glob g hg
      exact ⟨B, hB, by simp [Act.eval, hr, ho]⟩
    · cases hm
  | func f =>
    simp only [mo] at hm
    cases hm
    exact ⟨#[], #[], rfl, rfl, rfl⟩
theorem mos_VL : ∀ {xs : List Operand} {ms : List MO}, mos X.ng n xs = some ms → Fit X σ n fr a L → (∀ x ∈ xs, ∀ t, x = .tmp t → L t) → VL σ (rowV fr ms) (xs.map a.eval)
  | [], _, hm, h, _ => by cases hm; rfl
  | x :: xs, ms, hm, h, hx => by
    simp only [mos] at hm
    split at hm
    · rename_i y l hy hl
      cases hm
      exact VL.cons (mo_V hy h (hx x List.mem_cons_self)) (mos_VL hl h fun y hy => hx y (List.mem_cons_of_mem _ hy))
    · cases hm
theorem mos_VL' {xs : Array Operand} {ms : List MO} (hm : mos X.ng n xs.toList = some ms) (h : Fit X σ n fr a L) (hx : ∀ x ∈ xs, ∀ t, x = .tmp t → L t) : VL σ (rowV fr ms) (xs.map a.eval).toList := by
  have := mos_VL hm h fun x hm => hx x (by simpa using hm)
  simpa using this
theorem lop {o : Oper} {x : Operand} (h : x ∈ o.op.operands) : ∀ t, x = .tmp t → Lop o t := by rintro t rfl; exact h

/-! ### inversions of values -/
theorem V.bool_inv {b : Bool} {v : Value} (h : V σ (.bool b) v) : v = .bool b := h
theorem V.int_inv {k : IntKind} {i : Int} {v : Value} (h : V σ (.int k i) v) : v = .int k i := h
theorem V.str_inv {s : List Nat} {v : Value} (h : V σ (.str s) v) : ∃ t, v = .string t ∧ nums t = s.map σ.sym.bv := h
theorem len_of {t : ByteArray} {s : List Nat} {y : Sy} (h : nums t = s.map y.bv) : t.size = s.length := by
  have := congrArg List.length h
  rw [List.length_map] at this
  rw [← this]; unfold nums; rw [List.length_map]; rfl
theorem V.agg_inv {l : AV} {v : Value} (h : V σ (.agg l) v) : ∃ cs, v = .agg cs ∧ VL σ l cs.toList := h
theorem V.tup_inv {l : AV} {v : Value} (h : V σ (.tup l) v) : ∃ cs, v = .tuple cs ∧ VL σ l cs.toList := h
theorem V.ptr_inv {b o : Nat} {v : Value} (h : V σ (.ptr b o) v) : ∃ B, σ.bk b = some B ∧ v = .pointer (some ⟨B.r, B.o + o, none⟩) := h
theorem V.mk_str {s : ByteArray} : V σ (.str (nums s)) (.string s) := ⟨s, rfl, (Sy.map_nums _ _).symm⟩

end Go.Ev
end

section
set_option linter.unusedVariables false
namespace Go.Ev

theorem blt_eq (m n : Nat) : Nat.blt m n = decide (m < n) := by
  show Nat.ble (m + 1) n = _
  cases h : Nat.ble (m + 1) n
  · symm; simp only [decide_eq_false_iff_not]; intro hh; rw [Nat.ble_eq_true_of_le hh] at h; cases h
  · symm; simp only [decide_eq_true_eq]; exact Nat.le_of_ble_eq_true h
/-! ### texts as rows of numbers -/
noncomputable def lenK (l : List Nat) (n : Nat) (k : Nat → Bool) : Bool := List.rec (motive := fun _ => Nat → (Nat → Bool) → Bool) (fun n k => k n) (fun _ _ ih n k => ih (Nat.succ n) k) l n k
theorem lenK_eq : ∀ (l : List Nat) (n : Nat) (k : Nat → Bool), lenK l n k = k (n + l.length)
  | [], n, k => rfl
  | _ :: l, n, k => by
    show lenK l (n + 1) k = _
    rw [lenK_eq l, List.length_cons]; congr 1; omega
noncomputable def appK (l m : List Nat) (k : List Nat → Bool) : Bool := List.rec (motive := fun _ => (List Nat → Bool) → Bool) (fun k => k m) (fun x _ ih k => ih fun r => k (x :: r)) l k
theorem appK_eq (m : List Nat) : ∀ (l : List Nat) (k : List Nat → Bool), appK l m k = k (l ++ m)
  | [], k => rfl
  | x :: l, k => appK_eq m l _
noncomputable def dropK (n : Nat) (l : List Nat) (k : List Nat → Bool) : Bool :=
  Nat.rec (motive := fun _ => List Nat → Bool) (fun l => k l) (fun _ ih l => List.rec (motive := fun _ => Bool) (k []) (fun _ l _ => ih l) l) n l
theorem dropK_eq (k : List Nat → Bool) : ∀ (n : Nat) (l : List Nat), dropK n l k = k (l.drop n)
  | 0, l => rfl
  | n + 1, [] => rfl
  | n + 1, _ :: l => dropK_eq k n l
noncomputable def takeK (n : Nat) (l : List Nat) (k : List Nat → Bool) : Bool :=
  Nat.rec (motive := fun _ => List Nat → (List Nat → Bool) → Bool) (fun _ k => k []) (fun _ ih l k => List.rec (motive := fun _ => Bool) (k []) (fun x l _ => ih l fun r => k (x :: r)) l) n l k
theorem takeK_eq : ∀ (n : Nat) (l : List Nat) (k : List Nat → Bool), takeK n l k = k (l.take n)
  | 0, l, k => by rw [List.take_zero]; rfl
  | n + 1, [], k => rfl
  | n + 1, x :: l, k => takeK_eq n l _
noncomputable def eqL (l m : List Nat) : Bool :=
  List.rec (motive := fun _ => List Nat → Bool) (fun m => List.rec (motive := fun _ => Bool) true (fun _ _ _ => false) m)
    (fun x _ ih m => List.rec (motive := fun _ => Bool) false (fun y m _ => chk (Nat.beq x y) (ih m)) m) l m
theorem eqL_eq : ∀ (l m : List Nat), eqL l m = decide (l = m)
  | [], [] => rfl
  | [], _ :: _ => rfl
  | _ :: _, [] => rfl
  | x :: l, y :: m => by
    show chk (Nat.beq x y) (eqL l m) = _
    rw [eqL_eq l m]
    by_cases h : x = y
    · subst h; rw [show Nat.beq x x = true from Nat.beq_refl x]; simp [chk]
    · rw [nbf.2 h]; simp [chk, h]
noncomputable def ltL (l m : List Nat) : Bool :=
  List.rec (motive := fun _ => List Nat → Bool) (fun m => List.rec (motive := fun _ => Bool) false (fun _ _ _ => true) m)
    (fun x _ ih m => List.rec (motive := fun _ => Bool) false (fun y m _ => sel (Nat.blt x y) true (chk (Nat.beq x y) (ih m))) m) l m
theorem ltL_eq : ∀ (l m : List UInt8), ltL (l.map UInt8.toNat) (m.map UInt8.toNat) = Op.bytesLess l m
  | [], [] => rfl
  | [], _ :: _ => rfl
  | _ :: _, [] => rfl
  | x :: l, y :: m => by
    show sel (Nat.blt x.toNat y.toNat) true (chk (Nat.beq x.toNat y.toNat) (ltL (l.map UInt8.toNat) (m.map UInt8.toNat))) = _
    rw [ltL_eq l m, Op.bytesLess]
    rw [blt_eq]
    by_cases h : x < y
    · have h0 : x.toNat < y.toNat := h
      simp [h, h0]
    · have h1 : ¬ x.toNat < y.toNat := h
      rw [decide_eq_false h1, sel_false]
      by_cases h2 : x = y
      · subst h2; rw [show Nat.beq x.toNat x.toNat = true from Nat.beq_refl _]; simp [chk, h]
      · have h3 : x.toNat ≠ y.toNat := fun hh => h2 (UInt8.toNat_inj.1 hh)
        rw [nbf.2 h3]; simp [chk, h, h2]
theorem map_toNat_inj : ∀ {l m : List UInt8}, l.map UInt8.toNat = m.map UInt8.toNat → l = m
  | [], [], _ => rfl
  | [], _ :: _, h => by cases h
  | _ :: _, [], h => by cases h
  | x :: l, y :: m, h => by
    simp only [List.map_cons, List.cons.injEq] at h
    rw [UInt8.toNat_inj.1 h.1, map_toNat_inj h.2]
theorem nums_inj {s t : ByteArray} (h : nums s = nums t) : s = t := by
  unfold nums at h
  have : s.data.toList = t.data.toList := map_toNat_inj h
  cases s; cases t; simp at this; rw [this]
theorem nums_length (s : ByteArray) : (nums s).length = s.size := by
  unfold nums; rw [List.length_map]; rfl
theorem nums_append (s t : ByteArray) : nums (s ++ t) = nums s ++ nums t := by simp [nums]
theorem nums_lt (s : ByteArray) : ∀ x ∈ nums s, x < 256 := by
  intro x hx
  simp only [nums, List.mem_map] at hx
  obtain ⟨b, _, rfl⟩ := hx
  exact b.toNat_lt

/-! ### texts in which digits are not known -/
noncomputable def isD (c : Nat) : Bool := chk (Nat.ble 48 c) (Nat.ble c 57)
/-- are two bytes surely unlike? -/
noncomputable def ne1 (x y : Nat) : Bool := sel (Nat.blt x 256) (sel (Nat.blt y 256) (sel (Nat.beq x y) false true) (sel (isD x) false true)) (sel (Nat.blt y 256) (sel (isD y) false true) false)
theorem isD_false {c : Nat} (h : isD c = false) : c < 48 ∨ 57 < c := by
  unfold isD at h
  cases h1 : Nat.ble 48 c
  · left; rcases Nat.lt_or_ge c 48 with g | g
    · exact g
    · rw [Nat.ble_eq_true_of_le g] at h1; cases h1
  · rw [h1] at h
    right; rcases Nat.lt_or_ge 57 c with g | g
    · exact g
    · have h : Nat.ble c 57 = false := h
      rw [Nat.ble_eq_true_of_le g] at h; cases h
theorem selft {b : Bool} (h : sel b false true = true) : b = false := by cases b <;> first | rfl | cases h
theorem ne1_ne {x y : Nat} (h : ne1 x y = true) (z : Sy) : z.bv x ≠ z.bv y := by
  unfold ne1 at h
  rw [blt_eq, blt_eq] at h
  by_cases hx : x < 256
  · rw [decide_eq_true hx, sel_true] at h
    rw [z.bv_lt hx]
    by_cases hy : y < 256
    · rw [decide_eq_true hy, sel_true] at h
      rw [z.bv_lt hy]
      exact nbf.1 (selft h)
    · rw [decide_eq_false hy, sel_false] at h
      have := isD_false (selft h)
      have := z.bv_ge (c := y) (by omega)
      omega
  · rw [decide_eq_false hx, sel_false] at h
    by_cases hy : y < 256
    · rw [decide_eq_true hy, sel_true] at h
      rw [z.bv_lt hy]
      have := isD_false (selft h)
      have := z.bv_ge (c := x) (by omega)
      omega
    · rw [decide_eq_false hy, sel_false] at h; cases h
/-- two texts: alike, surely unlike, or neither; u: a pair of bytes is in doubt -/
noncomputable def eqG {β : Type} (t f n : β) (l m : List Nat) (u : Bool) : β :=
  List.rec (motive := fun _ => List Nat → Bool → β) (fun m u => List.rec (motive := fun _ => β) (Bool.rec (motive := fun _ => β) t n u) (fun _ _ _ => f) m)
    (fun x _ ih m u => List.rec (motive := fun _ => β) f (fun y m _ => Bool.rec (motive := fun _ => β) (Bool.rec (motive := fun _ => β) (ih m true) f (ne1 x y)) (ih m u) (Nat.beq x y)) m) l m u
theorem eqG_inv {β : Type} {t f n : β} : ∀ {l m : List Nat} {u : Bool}, (eqG t f n l m u = t ∧ u = false ∧ l = m) ∨ (eqG t f n l m u = f ∧ ∀ z : Sy, l.map z.bv ≠ m.map z.bv) ∨ eqG t f n l m u = n
  | [], [], u => by
    cases u
    · exact .inl ⟨rfl, rfl, rfl⟩
    · exact .inr (.inr rfl)
  | [], _ :: _, u => .inr (.inl ⟨rfl, fun z h => by cases h⟩)
  | _ :: _, [], u => .inr (.inl ⟨rfl, fun z h => by cases h⟩)
  | x :: l, y :: m, u => by
    have e : eqG t f n (x :: l) (y :: m) u = Bool.rec (motive := fun _ => β) (Bool.rec (motive := fun _ => β) (eqG t f n l m true) f (ne1 x y)) (eqG t f n l m u) (Nat.beq x y) := rfl
    rw [e]
    cases hb : Nat.beq x y
    · cases hn : ne1 x y
      · rcases eqG_inv (l := l) (m := m) (u := true) with ⟨_, h, _⟩ | ⟨h1, h2⟩ | h
        · cases h
        · refine .inr (.inl ⟨h1, fun z hz => h2 z ?_⟩)
          simp only [List.map_cons, List.cons.injEq] at hz
          exact hz.2
        · exact .inr (.inr h)
      · refine .inr (.inl ⟨rfl, fun z hz => ?_⟩)
        simp only [List.map_cons, List.cons.injEq] at hz
        exact ne1_ne hn z hz.1
    · rw [Nat.beq_eq] at hb
      subst hb
      rcases eqG_inv (l := l) (m := m) (u := u) with ⟨h1, h2, h3⟩ | ⟨h1, h2⟩ | h
      · exact .inl ⟨h1, h2, by rw [h3]⟩
      · refine .inr (.inl ⟨h1, fun z hz => h2 z ?_⟩)
        simp only [List.map_cons, List.cons.injEq] at hz
        exact hz.2
      · exact .inr (.inr h)
theorem eqS_inv {t f : Bool} {l m : List Nat} (h : eqG t f false l m false = true) : (t = true ∧ l = m) ∨ (f = true ∧ ∀ z : Sy, l.map z.bv ≠ m.map z.bv) := by
  rcases eqG_inv (t := t) (f := f) (n := false) (l := l) (m := m) (u := false) with ⟨h1, _, h2⟩ | ⟨h1, h2⟩ | h1
  · exact .inl ⟨h1.symm.trans h, h2⟩
  · exact .inr ⟨h1.symm.trans h, h2⟩
  · rw [h1] at h; cases h
noncomputable def eqO (l m : List Nat) : Option Bool := eqG (some true) (some false) none l m false
theorem eqO_inv {l m : List Nat} {r : Bool} (h : eqO l m = some r) : ∀ z : Sy, decide (l.map z.bv = m.map z.bv) = r := by
  intro z
  unfold eqO at h
  rcases eqG_inv (t := some true) (f := some false) (n := none) (l := l) (m := m) (u := false) with ⟨h1, _, h2⟩ | ⟨h1, h2⟩ | h1
  · rw [h1] at h; cases h; simp [h2]
  · rw [h1] at h; cases h; simp [h2 z]
  · rw [h1] at h; cases h
/-- is a byte surely less than another one? -/
noncomputable def lt1 (x y : Nat) : Bool := sel (Nat.blt x 256) (sel (Nat.blt y 256) (Nat.blt x y) (Nat.blt x 48)) (sel (Nat.blt y 256) (Nat.blt 57 y) false)
theorem lt1_lt {x y : Nat} (h : lt1 x y = true) (z : Sy) : z.bv x < z.bv y := by
  unfold lt1 at h
  simp only [blt_eq] at h
  by_cases hx : x < 256
  · rw [decide_eq_true hx, sel_true] at h
    rw [z.bv_lt hx]
    by_cases hy : y < 256
    · rw [decide_eq_true hy, sel_true, decide_eq_true_eq] at h
      rwa [z.bv_lt hy]
    · rw [decide_eq_false hy, sel_false, decide_eq_true_eq] at h
      have := z.bv_ge (c := y) (by omega)
      omega
  · rw [decide_eq_false hx, sel_false] at h
    by_cases hy : y < 256
    · rw [decide_eq_true hy, sel_true, decide_eq_true_eq] at h
      rw [z.bv_lt hy]
      have := z.bv_ge (c := x) (by omega)
      omega
    · rw [decide_eq_false hy, sel_false] at h; cases h
noncomputable def ltS (t f : Bool) (l m : List Nat) : Bool :=
  List.rec (motive := fun _ => List Nat → Bool) (fun m => List.rec (motive := fun _ => Bool) f (fun _ _ _ => t) m)
    (fun x _ ih m => List.rec (motive := fun _ => Bool) f (fun y m _ => sel (Nat.beq x y) (ih m) (sel (lt1 x y) t (sel (lt1 y x) f false))) m) l m
/-- 'less' of two texts, whatever the digits are -/
def LtIs (l m : List Nat) (b : Bool) : Prop := ∀ (z : Sy) (l' m' : List UInt8), l'.map UInt8.toNat = l.map z.bv → m'.map UInt8.toNat = m.map z.bv → Op.bytesLess l' m' = b
theorem ltS_inv {t f : Bool} : ∀ {l m : List Nat}, ltS t f l m = true → (t = true ∧ LtIs l m true) ∨ (f = true ∧ LtIs l m false)
  | [], [], h => .inr ⟨h, fun z l' m' hl hm => by
    simp only [List.map_nil, List.map_eq_nil_iff] at hl hm
    subst hl hm
    rfl⟩
  | [], y :: m, h => .inl ⟨h, fun z l' m' hl hm => by
    simp only [List.map_nil, List.map_eq_nil_iff] at hl
    subst hl
    cases m' with
    | nil => cases hm
    | cons b m' => rfl⟩
  | x :: l, [], h => .inr ⟨h, fun z l' m' hl hm => by
    simp only [List.map_nil, List.map_eq_nil_iff] at hm
    subst hm
    cases l' with
    | nil => cases hl
    | cons b m' => rfl⟩
  | x :: l, y :: m, h => by
    have h : sel (Nat.beq x y) (ltS t f l m) (sel (lt1 x y) t (sel (lt1 y x) f false)) = true := h
    have heads : ∀ {r : Bool}, (∀ (z : Sy) (a b : UInt8) (l' m' : List UInt8), a.toNat = z.bv x → b.toNat = z.bv y → l'.map UInt8.toNat = l.map z.bv → m'.map UInt8.toNat = m.map z.bv → Op.bytesLess (a :: l') (b :: m') = r) → LtIs (x :: l) (y :: m) r := by
      intro r hr z l' m' hl hm
      cases l' with
      | nil => cases hl
      | cons a l' =>
        cases m' with
        | nil => cases hm
        | cons b m' =>
          simp only [List.map_cons, List.cons.injEq] at hl hm
          exact hr z a b l' m' hl.1 hm.1 hl.2 hm.2
    rcases sel_eq h with ⟨h1, h9⟩ | ⟨_, h⟩
    · rw [Nat.beq_eq] at h1
      subst h1
      have same : ∀ {r : Bool}, LtIs l m r → LtIs (x :: l) (x :: m) r := fun hr => heads fun z a b l' m' ha hb hl hm => by
        have hab : a = b := UInt8.toNat_inj.1 (ha.trans hb.symm)
        subst hab
        have : Op.bytesLess (a :: l') (a :: m') = Op.bytesLess l' m' := by
          have : ¬ a < a := fun h => Nat.lt_irrefl _ (show a.toNat < a.toNat from h)
          simp [Op.bytesLess, this]
        rw [this]
        exact hr z l' m' hl hm
      rcases ltS_inv h9 with ⟨h1, h2⟩ | ⟨h1, h2⟩
      · exact .inl ⟨h1, same h2⟩
      · exact .inr ⟨h1, same h2⟩
    · rcases sel_eq h with ⟨h1, h⟩ | ⟨_, h⟩
      · refine .inl ⟨h, heads fun z a b l' m' ha hb hl hm => ?_⟩
        have := lt1_lt h1 z
        have hab : a < b := by show a.toNat < b.toNat; omega
        simp [Op.bytesLess, hab]
      · rcases sel_eq h with ⟨h1, h⟩ | ⟨_, h⟩
        · refine .inr ⟨h, heads fun z a b l' m' ha hb hl hm => ?_⟩
          have := lt1_lt h1 z
          have hab : ¬ a < b := by show ¬ a.toNat < b.toNat; omega
          have hne : a ≠ b := fun e => by subst e; omega
          simp [Op.bytesLess, hab, hne]
        · cases h
/-- is all of a text known? -/
noncomputable def plainK (s : List Nat) (k : Bool) : Bool := List.rec (motive := fun _ => Bool) k (fun c _ ih => chk (Nat.blt c 256) ih) s
theorem plainK_inv {s : List Nat} {k : Bool} (h : plainK s k = true) : (∀ z : Sy, s.map z.bv = s) ∧ k = true := by
  induction s with
  | nil => exact ⟨fun _ => rfl, h⟩
  | cons c s ih =>
    obtain ⟨h1, h⟩ := chk_eq (b := Nat.blt c 256) (t := plainK s k) h
    obtain ⟨h2, h3⟩ := ih h
    rw [blt_eq, decide_eq_true_eq] at h1
    exact ⟨fun z => by rw [List.map_cons, z.bv_lt h1, h2 z], h3⟩

/-! ### comparing numbers -/
noncomputable def ieq (x y : Int) : Bool := Int.rec (motive := fun _ => Bool) (fun m => Int.rec (motive := fun _ => Bool) (fun n => Nat.beq m n) (fun _ => false) y) (fun m => Int.rec (motive := fun _ => Bool) (fun _ => false) (fun n => Nat.beq m n) y) x
theorem ieq_eq (x y : Int) : ieq x y = (x == y) := by
  have e : (x == y) = decide (x = y) := by
    by_cases h : x = y
    · simp [h]
    · simp [h]
  rw [e]
  cases x with
  | ofNat m => cases y with
    | ofNat n =>
      show Nat.beq m n = _
      by_cases h : m = n
      · subst h; rw [show Nat.beq m m = true from Nat.beq_refl m]; simp
      · rw [nbf.2 h]; symm; simp only [decide_eq_false_iff_not]; intro hh; exact h (Int.ofNat.inj hh)
    | negSucc n => symm; show decide _ = false; simp
  | negSucc m => cases y with
    | ofNat n => symm; show decide _ = false; simp
    | negSucc n =>
      show Nat.beq m n = _
      by_cases h : m = n
      · subst h; rw [show Nat.beq m m = true from Nat.beq_refl m]; simp
      · rw [nbf.2 h]; symm; simp only [decide_eq_false_iff_not]; intro hh; exact h (Int.negSucc.inj hh)
noncomputable def ilt (x y : Int) : Bool := Int.rec (motive := fun _ => Bool) (fun m => Int.rec (motive := fun _ => Bool) (fun n => Nat.blt m n) (fun _ => false) y) (fun m => Int.rec (motive := fun _ => Bool) (fun _ => true) (fun n => Nat.blt n m) y) x
theorem ilt_eq (x y : Int) : ilt x y = decide (x < y) := by
  cases x with
  | ofNat m => cases y with
    | ofNat n => show Nat.blt m n = _; rw [blt_eq]; congr 1; simp
    | negSucc n => symm; show decide _ = false; simp only [decide_eq_false_iff_not, Int.ofNat_eq_natCast]; omega
  | negSucc m => cases y with
    | ofNat n => symm; show decide _ = true; simp only [decide_eq_true_eq, Int.ofNat_eq_natCast]; omega
    | negSucc n => show Nat.blt n m = _; rw [blt_eq]; congr 1; simp only [eq_iff_iff]; omega

end Go.Ev
end

section
set_option linter.unusedVariables false
namespace Go.Ev

variable {X : Cx} {σ : Sig} {n : Nat} {fr : Fr} {a : Act} {w : World}

/-- an operation that hangs on its operands alone -/
def Pure (X : Cx) (n : Nat) (fr : Fr) (o : Oper) (v : AV) : Prop :=
  ∀ (σ : Sig) (a : Act) (w : World), Fit X σ n fr a (Lop o) → ∃ x, (execOp a.eval o).run X.P w = .ok (.value x) w ∧ V σ v x

theorem run_exec_value {P : Program} {s : Sem Value} {x : Value} {w w' : World} (h : s.run P w = .ok x w') :
    (do pure (Next.value (← s)) : Sem Next).run P w = .ok (.value x) w' := by
  simp [h, Result.andThen]

/-! ### operators on numbers and texts -/
noncomputable def shK (o : BinOp) (k : IntKind) (x y : Int) (K : AV → Bool) : Bool :=
  match y with
  | .ofNat m => fN (Nat.min m k.bits) fun m => match o with
    | .shl => wK k (x * 2 ^ m) fun r => K (.int k r)
    | .shr => fI (x.fdiv (2 ^ m)) fun r => K (.int k r)
    | _ => false
  | .negSucc _ => false
noncomputable def inK2 (o : BinOp) (k : IntKind) (x y : Int) (K : AV → Bool) : Bool :=
  match o with
  | .add => wK k (x + y) fun r => K (.int k r)
  | .sub => wK k (x - y) fun r => K (.int k r)
  | .mul => wK k (x * y) fun r => K (.int k r)
  | .quo => chk (!ieq y 0) (wK k (x.tdiv y) fun r => K (.int k r))
  | .rem => chk (!ieq y 0) (fI (x.tmod y) fun r => K (.int k r))
  | .and => fI (k.wrap (BitVec.ofInt k.bits x &&& BitVec.ofInt k.bits y).toNat) fun r => K (.int k r)
  | .or => fI (k.wrap (BitVec.ofInt k.bits x ||| BitVec.ofInt k.bits y).toNat) fun r => K (.int k r)
  | .xor => fI (k.wrap (BitVec.ofInt k.bits x ^^^ BitVec.ofInt k.bits y).toNat) fun r => K (.int k r)
  | .andNot => fI (k.wrap (BitVec.ofInt k.bits x &&& ~~~BitVec.ofInt k.bits y).toNat) fun r => K (.int k r)
  | .eql => sel (ieq x y) (K (.bool true)) (K (.bool false))
  | .neq => sel (ieq x y) (K (.bool false)) (K (.bool true))
  | .lss => sel (ilt x y) (K (.bool true)) (K (.bool false))
  | .leq => sel (ilt y x) (K (.bool false)) (K (.bool true))
  | .gtr => sel (ilt y x) (K (.bool true)) (K (.bool false))
  | .geq => sel (ilt x y) (K (.bool false)) (K (.bool true))
  | _ => false
noncomputable def stK (o : BinOp) (s t : List Nat) (K : AV → Bool) : Bool :=
  match o with
  | .add => lenK s 0 fun n => lenK t n fun n => chk (Nat.ble n 9223372036854775807) (appK s t fun r => K (.str r))
  | .eql => eqG (K (.bool true)) (K (.bool false)) false s t false
  | .neq => eqG (K (.bool false)) (K (.bool true)) false s t false
  | .lss => ltS (K (.bool true)) (K (.bool false)) s t
  | .leq => ltS (K (.bool false)) (K (.bool true)) t s
  | .gtr => ltS (K (.bool true)) (K (.bool false)) t s
  | .geq => ltS (K (.bool false)) (K (.bool true)) s t
  | _ => false
def FA.isK (x y : FA) : Bool := match x, y with
  | .s i, .s j => Nat.beq i j
  | .c k z, .c q j => decide (k = q) && decide (z = j)
  | _, _ => false
theorem FA.isK_eq {x y : FA} (h : x.isK y = true) : x = y := by
  cases x <;> cases y <;> simp only [FA.isK, Bool.and_eq_true, decide_eq_true_eq] at h
  · rw [Nat.eq_of_beq_eq_true h]
  · cases h
  · cases h
  · rw [h.1, h.2]
noncomputable def fcK (o : FOp) (x y : FA) (K : AV → Bool) : List Fact → Bool
  | [] => false
  | e :: l => sel (e.x.isK x) (sel (e.y.isK y) (sel (decide (e.o = o)) (K e.v) (fcK o x y K l)) (fcK o x y K l)) (fcK o x y K l)
/-- a digit that is not known, held against a number; f: what facts say -/
noncomputable def digK (o : BinOp) (i c : Nat) (K : AV → Bool) (f : Bool) : Bool :=
  match o with
  | .eql => sel (ne1 i c) (K (.bool false)) f
  | .neq => sel (ne1 i c) (K (.bool true)) f
  | .lss => sel (Nat.blt 57 c) (K (.bool true)) (sel (Nat.ble c 48) (K (.bool false)) f)
  | .leq => sel (Nat.ble 57 c) (K (.bool true)) (sel (Nat.blt c 48) (K (.bool false)) f)
  | .gtr => sel (Nat.blt c 48) (K (.bool true)) (sel (Nat.ble 57 c) (K (.bool false)) f)
  | .geq => sel (Nat.ble c 48) (K (.bool true)) (sel (Nat.blt 57 c) (K (.bool false)) f)
  | _ => f
noncomputable def symK (fc : List Fact) (o : BinOp) (i : Nat) (k : IntKind) (y : Int) (K : AV → Bool) : Bool :=
  match y with
  | .ofNat c => sel (chk (Nat.ble 256 i) (chk (Nat.blt c 256) (decide (k = .u8)))) (digK o i c K (fcK (.bin o) (.s i) (.c k y) K fc)) (fcK (.bin o) (.s i) (.c k y) K fc)
  | .negSucc _ => fcK (.bin o) (.s i) (.c k y) K fc
noncomputable def binK (fc : List Fact) (o : BinOp) (x y : AV) (K : AV → Bool) : Bool :=
  match x, y with
  | .int k x, .int k' y => (match o with
    | .shl | .shr => shK o k x y K
    | _ => chk (decide (k = k')) (inK2 o k x y K))
  | .str s, .str t => stK o s t K
  | .sym i, .int k y => symK fc o i k y K
  | .int k y, .sym i => fcK (.bin o) (.c k y) (.s i) K fc
  | .sym i, .sym j => fcK (.bin o) (.s i) (.s j) K fc
  | _, _ => false

theorem eqGuard_int {P : Program} {w : World} (o : BinOp) (t : TypeId) (x y : Operand) (k k' : IntKind) (i j : Int) : (eqGuard o t x y (.int k i) (.int k' j)).run P w = .ok () w := by
  unfold eqGuard; split <;> rfl
theorem eqGuard_str {P : Program} {w : World} (o : BinOp) (t : TypeId) (x y : Operand) (s u : ByteArray) : (eqGuard o t x y (.string s) (.string u)).run P w = .ok () w := by
  unfold eqGuard; split <;> rfl

theorem bool_of_sel {b : Bool} {K : AV → Bool} (h : sel b (K (.bool true)) (K (.bool false)) = true) : K (.bool b) = true := by cases b <;> exact h
theorem bool_of_sel' {b : Bool} {K : AV → Bool} (h : sel b (K (.bool false)) (K (.bool true)) = true) : K (.bool !b) = true := by cases b <;> exact h

theorem shK_inv {o : BinOp} {k kb : IntKind} {x y : Int} {K : AV → Bool} (ho : o = .shl ∨ o = .shr) (h : shK o k x y K = true) :
    ∃ r, K (.int k r) = true ∧ ∀ (P : Program) (w : World), (Op.shift o k x kb y).run P w = .ok (.int k r) w := by
  unfold shK at h
  cases y with
  | negSucc m => cases h
  | ofNat m =>
    simp only [fN_eq] at h
    have h0 : ¬ (Int.ofNat m < 0) := by simp
    rcases ho with rfl | rfl
    · simp only [wK_eq] at h
      refine ⟨_, h, fun P w => ?_⟩
      unfold Op.shift
      rw [if_neg h0]; rfl
    · simp only [fI_eq] at h
      refine ⟨_, h, fun P w => ?_⟩
      unfold Op.shift
      rw [if_neg h0]; rfl
theorem inK2_inv {o : BinOp} {k : IntKind} {x y : Int} {K : AV → Bool} (h : inK2 o k x y K = true) :
    ∃ v u, K v = true ∧ (∀ σ, V σ v u) ∧ ∀ (t : TypeId) (P : Program) (w : World), (Go.binOp o t (.int k x) (.int k y)).run P w = .ok u w := by
  cases o <;> simp only [inK2, wK_eq, fI_eq, ieq_eq, ilt_eq] at h
  case add => exact ⟨_, _, h, fun _ => rfl, fun t P w => by simp [Go.binOp, Op.intArith]⟩
  case sub => exact ⟨_, _, h, fun _ => rfl, fun t P w => by simp [Go.binOp, Op.intArith]⟩
  case mul => exact ⟨_, _, h, fun _ => rfl, fun t P w => by simp [Go.binOp, Op.intArith]⟩
  case quo =>
    obtain ⟨h1, h⟩ := chk_eq h
    have hy : y ≠ 0 := by simpa using h1
    exact ⟨_, _, h, fun _ => rfl, fun t P w => by simp [Go.binOp, Op.intDiv, hy]⟩
  case rem =>
    obtain ⟨h1, h⟩ := chk_eq h
    have hy : y ≠ 0 := by simpa using h1
    exact ⟨_, _, h, fun _ => rfl, fun t P w => by simp [Go.binOp, Op.intDiv, hy]⟩
  case and => exact ⟨_, _, h, fun _ => rfl, fun t P w => by simp [Go.binOp, Op.intBits]⟩
  case or => exact ⟨_, _, h, fun _ => rfl, fun t P w => by simp [Go.binOp, Op.intBits]⟩
  case xor => exact ⟨_, _, h, fun _ => rfl, fun t P w => by simp [Go.binOp, Op.intBits]⟩
  case andNot => exact ⟨_, _, h, fun _ => rfl, fun t P w => by simp [Go.binOp, Op.intBits]⟩
  case eql => exact ⟨_, _, bool_of_sel h, fun _ => rfl, fun t P w => by simp [Go.binOp, Op.intCmp]⟩
  case neq => exact ⟨_, _, bool_of_sel' h, fun _ => rfl, fun t P w => by simp [Go.binOp, Op.intCmp, bne]⟩
  case lss => exact ⟨_, _, bool_of_sel h, fun _ => rfl, fun t P w => by simp [Go.binOp, Op.intCmp]⟩
  case leq => exact ⟨_, _, bool_of_sel' h, fun _ => rfl, fun t P w => by simp only [Go.binOp, Op.intCmp, ne_eq, not_true_eq_false, if_false]; show Result.ok _ w = _; congr 2; by_cases hxy : y < x <;> simp [hxy] <;> omega⟩
  case gtr => exact ⟨_, _, bool_of_sel h, fun _ => rfl, fun t P w => by simp [Go.binOp, Op.intCmp]⟩
  case geq => exact ⟨_, _, bool_of_sel' h, fun _ => rfl, fun t P w => by simp only [Go.binOp, Op.intCmp, ne_eq, not_true_eq_false, if_false]; show Result.ok _ w = _; congr 2; by_cases hxy : x < y <;> simp [hxy] <;> omega⟩
  all_goals cases h

theorem beq_nums (a b : ByteArray) : (a.toList == b.toList) = decide (nums a = nums b) := by
  rw [ByteArray.toList_eq, ByteArray.toList_eq]
  by_cases hh : nums a = nums b
  · rw [nums_inj hh]; simp
  · have : ¬ a.data.toList = b.data.toList := fun e => hh (by unfold nums; rw [e])
    rw [decide_eq_false hh]; simpa using this
theorem bytesLess_leq : ∀ (a b : List UInt8), (Op.bytesLess a b || a == b) = !Op.bytesLess b a
  | [], [] => rfl
  | [], _ :: _ => rfl
  | _ :: _, [] => rfl
  | x :: a, y :: b => by
    have ih := bytesLess_leq a b
    have e1 : Op.bytesLess (x :: a) (y :: b) = (decide (x < y) || (x == y && Op.bytesLess a b)) := by
      simp only [Op.bytesLess]
    have e2 : Op.bytesLess (y :: b) (x :: a) = (decide (y < x) || (y == x && Op.bytesLess b a)) := by
      simp only [Op.bytesLess]
    have e3 : (x :: a == y :: b) = (x == y && a == b) := rfl
    rw [e1, e2, e3]
    by_cases h : x = y
    · subst h
      have : ¬ x < x := fun h => Nat.lt_irrefl _ (show x.toNat < x.toNat from h)
      simp [this, ih]
    · have h1 : (x == y) = false := by simp [h]
      have h2 : (y == x) = false := by simp; exact fun e => h e.symm
      have h3 : x.toNat ≠ y.toNat := fun e => h (UInt8.toNat_inj.1 e)
      by_cases g : x < y
      · have : ¬ y < x := fun q => by have a1 : x.toNat < y.toNat := g; have a2 : y.toNat < x.toNat := q; omega
        simp [h1, h2, g, this]
      · have : y < x := by show y.toNat < x.toNat; have : ¬ x.toNat < y.toNat := g; omega
        simp [h1, h2, g, this]
theorem stK_inv {o : BinOp} {s t : List Nat} {K : AV → Bool} (h : stK o s t K = true) :
    ∃ v, K v = true ∧ ∀ (σ : Sig) (a b : ByteArray), nums a = s.map σ.sym.bv → nums b = t.map σ.sym.bv → ∃ x, V σ v x ∧ ∀ (T : TypeId) (P : Program) (w : World), (Go.binOp o T (.string a) (.string b)).run P w = .ok x w := by
  have lt2 : ∀ {σ : Sig} {a : ByteArray} {s : List Nat}, nums a = s.map σ.sym.bv → a.toList.map UInt8.toNat = s.map σ.sym.bv := fun h => by rw [ByteArray.toList_eq]; exact h
  cases o <;> simp only [stK] at h
  case add =>
    simp only [lenK_eq, appK_eq] at h
    obtain ⟨h1, h⟩ := chk_eq h
    have h1 := Nat.le_of_ble_eq_true h1
    refine ⟨_, h, fun σ a b ha hb => ⟨.string (a ++ b), ⟨_, rfl, by rw [nums_append, ha, hb, List.map_append]⟩, fun T P w => ?_⟩⟩
    rw [Nat.zero_add, ← len_of ha, ← len_of hb] at h1
    have hm : IntKind.i64.max = 9223372036854775807 := by decide
    have : ¬ (((a.size + b.size : Nat) : Int) > IntKind.i64.max) := by rw [hm]; omega
    simp only [Go.binOp, Op.stringOp]
    rw [if_neg this]; rfl
  case eql =>
    rcases eqS_inv h with ⟨h, e⟩ | ⟨h, e⟩
    · exact ⟨_, h, fun σ a b ha hb => ⟨.bool true, rfl, fun T P w => by simp only [Go.binOp, Op.stringOp, beq_nums, ha, hb, e]; simp⟩⟩
    · exact ⟨_, h, fun σ a b ha hb => ⟨.bool false, rfl, fun T P w => by simp only [Go.binOp, Op.stringOp, beq_nums, ha, hb]; simp [e]⟩⟩
  case neq =>
    rcases eqS_inv h with ⟨h, e⟩ | ⟨h, e⟩
    · exact ⟨_, h, fun σ a b ha hb => ⟨.bool false, rfl, fun T P w => by simp only [Go.binOp, Op.stringOp, beq_nums, ha, hb, e]; simp⟩⟩
    · exact ⟨_, h, fun σ a b ha hb => ⟨.bool true, rfl, fun T P w => by simp only [Go.binOp, Op.stringOp, beq_nums, ha, hb]; simp [e]⟩⟩
  case lss =>
    rcases ltS_inv h with ⟨h, e⟩ | ⟨h, e⟩
    all_goals exact ⟨_, h, fun σ a b ha hb => ⟨_, rfl, fun T P w => by simp only [Go.binOp, Op.stringOp, e _ _ _ (lt2 ha) (lt2 hb)]; rfl⟩⟩
  case leq =>
    rcases ltS_inv h with ⟨h, e⟩ | ⟨h, e⟩
    all_goals exact ⟨_, h, fun σ a b ha hb => ⟨_, rfl, fun T P w => by simp only [Go.binOp, Op.stringOp, bytesLess_leq, e _ _ _ (lt2 hb) (lt2 ha)]; rfl⟩⟩
  case gtr =>
    rcases ltS_inv h with ⟨h, e⟩ | ⟨h, e⟩
    all_goals exact ⟨_, h, fun σ a b ha hb => ⟨_, rfl, fun T P w => by simp only [Go.binOp, Op.stringOp, bytesLess_leq, e _ _ _ (lt2 hb) (lt2 ha)]; rfl⟩⟩
  case geq =>
    rcases ltS_inv h with ⟨h, e⟩ | ⟨h, e⟩
    all_goals exact ⟨_, h, fun σ a b ha hb => ⟨_, rfl, fun T P w => by simp only [Go.binOp, Op.stringOp, e _ _ _ (lt2 ha) (lt2 hb)]; rfl⟩⟩
  all_goals cases h
theorem fcK_inv {o : FOp} {x y : FA} {K : AV → Bool} : ∀ {l : List Fact}, fcK o x y K l = true → ∃ e ∈ l, e.o = o ∧ e.x = x ∧ e.y = y ∧ K e.v = true
  | [], h => by cases h
  | e :: l, h => by
    have go : fcK o x y K l = true → ∃ e' ∈ e :: l, e'.o = o ∧ e'.x = x ∧ e'.y = y ∧ K e'.v = true := fun h => by
      obtain ⟨e', he, hh⟩ := fcK_inv h
      exact ⟨e', List.mem_cons_of_mem _ he, hh⟩
    unfold fcK at h
    rcases sel_eq h with ⟨h1, h⟩ | ⟨_, h⟩
    · rcases sel_eq h with ⟨h2, h⟩ | ⟨_, h⟩
      · rcases sel_eq h with ⟨h3, h⟩ | ⟨_, h⟩
        · exact ⟨e, List.mem_cons_self, of_decide_eq_true h3, FA.isK_eq h1, FA.isK_eq h2, h⟩
        · exact go h
      · exact go h
    · exact go h
theorem fact_at {o : FOp} {x y : FA} {K : AV → Bool} (h : fcK o x y K X.fc = true) : ∃ e, K e.v = true ∧ e.o = o ∧ ∀ {σ : Sig}, Sane X σ → ∀ {p q : Value}, V σ x.av p → V σ y.av q → ∃ k i k' j, p = .int k i ∧ q = .int k' j ∧ V σ e.x.av (.int k i) ∧ V σ e.y.av (.int k' j) ∧ FactOK σ e := by
  obtain ⟨e, he, ho, rfl, rfl, hK⟩ := fcK_inv h
  refine ⟨e, hK, ho, fun {σ} hs {p q} hp hq => ?_⟩
  obtain ⟨k, i, rfl⟩ := FA.int hp
  obtain ⟨k', j, rfl⟩ := FA.int hq
  exact ⟨k, i, k', j, rfl, rfl, hp, hq, hs.fact e he⟩

theorem binFact {o : BinOp} {x y : FA} {K : AV → Bool} (h : fcK (.bin o) x y K X.fc = true) :
    ∃ v, K v = true ∧ ∀ (σ : Sig) (t : TypeId) (a b : Operand) (p q : Value) (w : World), Sane X σ → V σ x.av p → V σ y.av q →
      ∃ u, (do eqGuard o t a b p q; Go.binOp o t p q : Sem Value).run X.P w = .ok u w ∧ V σ v u := by
  obtain ⟨e, hK, ho, hf⟩ := fact_at h
  refine ⟨_, hK, fun σ t ox oy p q w hs hp hq => ?_⟩
  obtain ⟨k, i, k', j, rfl, rfl, h1, h2, h3⟩ := hf hs hp hq
  have h3 := h3 k i k' j h1 h2
  rw [ho] at h3
  obtain ⟨u, h4, h5⟩ := h3
  exact ⟨u, by rw [Sem.run_bind, eqGuard_int]; exact h5 _ _ _, h4⟩
theorem digK_inv {o : BinOp} {i c : Nat} {K : AV → Bool} {f : Bool} (hi : 256 ≤ i) (hc : c < 256) (h : digK o i c K f = true) :
    (∃ b, K (.bool b) = true ∧ ∀ (z : Sy) (t : TypeId) (P : Program) (w : World), (Go.binOp o t (.int .u8 (z.bv i : Nat)) (.int .u8 (c : Nat))).run P w = .ok (.bool b) w) ∨ f = true := by
  have hg := fun z : Sy => z.bv_ge hi
  have ne : ne1 i c = true → ∀ z : Sy, z.bv i ≠ c := fun h z => by
    have := ne1_ne h z
    rwa [z.bv_lt hc] at this
  cases o <;> simp only [digK, blt_eq] at h
  case eql =>
    rcases sel_eq h with ⟨h1, h⟩ | ⟨_, h⟩
    · exact .inl ⟨_, h, fun z t P w => by have := ne h1 z; simp [Go.binOp, Op.intCmp]; omega⟩
    · exact .inr h
  case neq =>
    rcases sel_eq h with ⟨h1, h⟩ | ⟨_, h⟩
    · exact .inl ⟨_, h, fun z t P w => by have := ne h1 z; simp [Go.binOp, Op.intCmp, bne]; omega⟩
    · exact .inr h
  case lss =>
    rcases sel_eq h with ⟨h1, h⟩ | ⟨_, h⟩
    · rw [decide_eq_true_eq] at h1
      exact .inl ⟨_, h, fun z t P w => by have := hg z; simp [Go.binOp, Op.intCmp]; omega⟩
    · rcases sel_eq h with ⟨h1, h⟩ | ⟨_, h⟩
      · have h1 := Nat.le_of_ble_eq_true h1
        exact .inl ⟨_, h, fun z t P w => by have := hg z; simp [Go.binOp, Op.intCmp]; omega⟩
      · exact .inr h
  case leq =>
    rcases sel_eq h with ⟨h1, h⟩ | ⟨_, h⟩
    · have h1 := Nat.le_of_ble_eq_true h1
      exact .inl ⟨_, h, fun z t P w => by have := hg z; simp [Go.binOp, Op.intCmp]; omega⟩
    · rcases sel_eq h with ⟨h1, h⟩ | ⟨_, h⟩
      · rw [decide_eq_true_eq] at h1
        exact .inl ⟨_, h, fun z t P w => by have := hg z; simp [Go.binOp, Op.intCmp]; omega⟩
      · exact .inr h
  case gtr =>
    rcases sel_eq h with ⟨h1, h⟩ | ⟨_, h⟩
    · rw [decide_eq_true_eq] at h1
      exact .inl ⟨_, h, fun z t P w => by have := hg z; simp [Go.binOp, Op.intCmp]; omega⟩
    · rcases sel_eq h with ⟨h1, h⟩ | ⟨_, h⟩
      · have h1 := Nat.le_of_ble_eq_true h1
        exact .inl ⟨_, h, fun z t P w => by have := hg z; simp [Go.binOp, Op.intCmp]; omega⟩
      · exact .inr h
  case geq =>
    rcases sel_eq h with ⟨h1, h⟩ | ⟨_, h⟩
    · have h1 := Nat.le_of_ble_eq_true h1
      exact .inl ⟨_, h, fun z t P w => by have := hg z; simp [Go.binOp, Op.intCmp]; omega⟩
    · rcases sel_eq h with ⟨h1, h⟩ | ⟨_, h⟩
      · rw [decide_eq_true_eq] at h1
        exact .inl ⟨_, h, fun z t P w => by have := hg z; simp [Go.binOp, Op.intCmp]; omega⟩
      · exact .inr h
  all_goals exact .inr h
theorem binK_inv {o : BinOp} {xv yv : AV} {K : AV → Bool} (h : binK X.fc o xv yv K = true) :
    ∃ v, K v = true ∧ ∀ (σ : Sig) (t : TypeId) (x y : Operand) (p q : Value) (w : World), Sane X σ → V σ xv p → V σ yv q →
      ∃ u, (do eqGuard o t x y p q; Go.binOp o t p q : Sem Value).run X.P w = .ok u w ∧ V σ v u := by
  unfold binK at h
  split at h
  · rename_i k x k' y
    split at h
    · obtain ⟨r, hK, hr⟩ := shK_inv (kb := k') (.inl rfl) h
      refine ⟨_, hK, fun σ t ox oy p q w _ hp hq => ?_⟩
      cases hp.int_inv; cases hq.int_inv
      exact ⟨_, by rw [Sem.run_bind, eqGuard_int]; exact hr _ _, rfl⟩
    · obtain ⟨r, hK, hr⟩ := shK_inv (kb := k') (.inr rfl) h
      refine ⟨_, hK, fun σ t ox oy p q w _ hp hq => ?_⟩
      cases hp.int_inv; cases hq.int_inv
      exact ⟨_, by rw [Sem.run_bind, eqGuard_int]; exact hr _ _, rfl⟩
    · obtain ⟨hk, h2⟩ := chk_eq h
      have hk : k = k' := by simpa using hk
      subst hk
      obtain ⟨v, u, hK, hV, hr⟩ := inK2_inv h2
      refine ⟨v, hK, fun σ t ox oy p q w _ hp hq => ?_⟩
      cases hp.int_inv; cases hq.int_inv
      exact ⟨u, by rw [Sem.run_bind, eqGuard_int]; exact hr _ _ _, hV σ⟩
  · rename_i s t
    obtain ⟨v, hK, hr⟩ := stK_inv h
    refine ⟨v, hK, fun σ t ox oy p q w _ hp hq => ?_⟩
    obtain ⟨s', rfl, h1⟩ := hp.str_inv
    obtain ⟨t', rfl, h2⟩ := hq.str_inv
    obtain ⟨x, hV, hr⟩ := hr σ s' t' h1 h2
    exact ⟨x, by rw [Sem.run_bind, eqGuard_str]; exact hr _ _ _, hV⟩
  · rename_i i k y
    have fact : fcK (.bin o) (.s i) (.c k y) K X.fc = true → ∃ v, K v = true ∧ ∀ (σ : Sig) (t : TypeId) (x y' : Operand) (p q : Value) (w : World), Sane X σ → V σ (.sym i) p → V σ (.int k y) q →
      ∃ u, (do eqGuard o t x y' p q; Go.binOp o t p q : Sem Value).run X.P w = .ok u w ∧ V σ v u := fun h => binFact h
    unfold symK at h
    split at h
    · rename_i c
      rcases sel_eq h with ⟨h1, h⟩ | ⟨_, h⟩
      · obtain ⟨h1, h2⟩ := chk_eq h1
        obtain ⟨h5, h3⟩ := chk_eq h2
        rw [blt_eq, decide_eq_true_eq] at h5
        have h3 := of_decide_eq_true h3
        have h6 := Nat.le_of_ble_eq_true h1
        subst h3
        rcases digK_inv h6 h5 h with ⟨b, hK, hr⟩ | h
        · refine ⟨_, hK, fun σ t ox oy p q w _ hp hq => ?_⟩
          have hp : p = σ.sym.val i := hp
          rw [σ.sym.val_dig h6] at hp
          cases hq.int_inv
          subst hp
          exact ⟨_, by rw [Sem.run_bind, eqGuard_int]; exact hr σ.sym t X.P w, rfl⟩
        · exact fact h
      · exact fact h
    · exact fact h
  · exact binFact h
  · exact binFact h
  · cases h

end Go.Ev
end
