/- Library contracts of the evaluator, first part. -/
import Derived.Test.YtjbckgabnkljlaaGreatDoorEvF
import Derived.Lib.Index

section
set_option linter.unusedVariables false
set_option linter.unusedSimpArgs false
namespace Go.Ev

variable {X : Cx} {σ : Sig} {n : Nat} {ro : Option Nat} {fr : Fr} {ds : List Df} {h : H} {a : Act} {w : World}

/-! ### frames held against each other -/
noncomputable def allF {α : Type} (p : α → α → Bool) (f g : F α) : Bool := F.rec (motive := fun _ => Bool) (fun a0 a1 a2 a3 a4 a5 a6 => F.rec (motive := fun _ => Bool) (fun b0 b1 b2 b3 b4 b5 b6 =>
  sel (p a0 b0) (sel (p a1 b1) (sel (p a2 b2) (sel (p a3 b3) (sel (p a4 b4) (sel (p a5 b5) (p a6 b6) false) false) false) false) false) false) g) f
theorem allF_at {α : Type} {p : α → α → Bool} {f g : F α} (h : allF p f g = true) (d : D) : p (f.at d) (g.at d) = true := by
  cases f with
  | m a0 a1 a2 a3 a4 a5 a6 =>
    cases g with
    | m b0 b1 b2 b3 b4 b5 b6 =>
      have h : sel (p a0 b0) (sel (p a1 b1) (sel (p a2 b2) (sel (p a3 b3) (sel (p a4 b4) (sel (p a5 b5) (p a6 b6) false) false) false) false) false) false = true := h
      obtain ⟨h0, h⟩ := sel_and h
      obtain ⟨h1, h⟩ := sel_and h
      obtain ⟨h2, h⟩ := sel_and h
      obtain ⟨h3, h⟩ := sel_and h
      obtain ⟨h4, h⟩ := sel_and h
      obtain ⟨h5, h6⟩ := sel_and h
      cases d <;> assumption
/-- the same value, of the kinds that a frame keeps beside a loop -/
noncomputable def eqA (a : AV) : AV → Bool :=
  AV.rec (motive := fun _ => AV → Bool) (fun _ => false) (fun i c => match c with | .sym j => Nat.beq i j | _ => false) (fun p c => match c with | .bool q => decide (p = q) | _ => false) (fun k i c => match c with | .int k' j => decide (k = k' ∧ i = j) | _ => false)
    (fun s c => match c with | .str t => decide (s = t) | _ => false) (fun c => match c with | .nilp => true | _ => false) (fun b o c => match c with | .ptr b' o' => sel (Nat.beq b b') (Nat.beq o o') false | _ => false)
    (fun c => match c with | .nils => true | _ => false) (fun b o l cp e c => match c with | .sl b' o' l' c' e' => sel (Nat.beq b b') (sel (Nat.beq o o') (sel (Nat.beq l l') (sel (Nat.beq cp c') (Nat.beq e e') false) false) false) false | _ => false)
    (fun c => match c with | .nilm => true | _ => false) (fun b c => match c with | .map b' => Nat.beq b b' | _ => false) (fun _ _ _ _ _ _ => false) (fun _ _ => false) (fun c => match c with | .nilf => true | _ => false) (fun _ _ _ _ => false)
    (fun c => match c with | .nili => true | _ => false) (fun _ ih c => match c with | .agg m => ih m | _ => false) (fun _ ih c => match c with | .tup m => ih m | _ => false) (fun c => match c with | .nil => true | _ => false)
    (fun _ _ iha ihl c => match c with | .cons x m => sel (iha x) (ihl m) false | _ => false) a
theorem eqA_eq : ∀ {a c : AV}, eqA a c = true → a = c := by
  intro a
  induction a with
  | bool p => intro c h; cases c <;> first | (cases h; done) | (have h := of_decide_eq_true h; rw [h])
  | int k i => intro c h; cases c <;> first | (cases h; done) | (obtain ⟨h1, h2⟩ := of_decide_eq_true h; rw [h1, h2])
  | str s => intro c h; cases c <;> first | (cases h; done) | (have h := of_decide_eq_true h; rw [h])
  | sym i => intro c h; cases c <;> first | (cases h; done) | (have h := Nat.eq_of_beq_eq_true h; rw [h])
  | nilp => intro c h; cases c <;> first | rfl | cases h
  | ptr b o =>
    intro c h
    cases c <;> first | (cases h; done) | skip
    obtain ⟨h1, h2⟩ := sel_and h
    rw [Nat.eq_of_beq_eq_true h1, Nat.eq_of_beq_eq_true h2]
  | nils => intro c h; cases c <;> first | rfl | cases h
  | sl b o l cp e =>
    intro c h
    cases c <;> first | (cases h; done) | skip
    obtain ⟨h1, h⟩ := sel_and h
    obtain ⟨h2, h⟩ := sel_and h
    obtain ⟨h3, h⟩ := sel_and h
    obtain ⟨h4, h5⟩ := sel_and h
    rw [Nat.eq_of_beq_eq_true h1, Nat.eq_of_beq_eq_true h2, Nat.eq_of_beq_eq_true h3, Nat.eq_of_beq_eq_true h4, Nat.eq_of_beq_eq_true h5]
  | nilm => intro c h; cases c <;> first | rfl | cases h
  | map b =>
    intro c h
    cases c <;> first | (cases h; done) | skip
    rw [Nat.eq_of_beq_eq_true h]
  | nilf => intro c h; cases c <;> first | rfl | cases h
  | nili => intro c h; cases c <;> first | rfl | cases h
  | agg l ih => intro c h; cases c <;> first | (cases h; done) | (rw [ih h])
  | tup l ih => intro c h; cases c <;> first | (cases h; done) | (rw [ih h])
  | nil => intro c h; cases c <;> first | rfl | cases h
  | cons x l iha ihl =>
    intro c h
    cases c <;> first | (cases h; done) | skip
    obtain ⟨h1, h2⟩ := sel_and h
    rw [iha h1, ihl h2]
  | _ => intro c h; cases h
/-- a slot that is not looked at any more, or the same, and it lay there before -/
noncomputable def okA (N : Nat) (x y : AV) : Bool := match x with | .top => true | _ => sel (eqA x y) (bndV N x) false
theorem okA_V {σ τ : Sig} {N : Nat} (hle : σ.le τ) (hb : ∀ b, b < N → τ.bk b = σ.bk b) {x y : AV} (h : okA N x y = true) {v : Value} (hv : V τ y v) : V σ x v := by
  unfold okA at h
  split at h
  · trivial
  · obtain ⟨h1, h2⟩ := sel_and h
    rw [eqA_eq h1]
    exact (R.back hle hb y (by rw [← eqA_eq h1]; exact h2)).1 v hv
noncomputable def okF (N : Nat) (f g : Fr) : Bool := allF (allF (allF (okA N))) f g
theorem okF_RF {σ τ : Sig} {N : Nat} (hle : σ.le τ) (hb : ∀ b, b < N → τ.bk b = σ.bk b) {f g : Fr} (h : okF N f g = true) {tmps : Array Value} (hr : RF τ n g tmps) : RF σ n f tmps :=
  ⟨hr.size, fun i hi => okA_V hle hb (allF_at (allF_at (allF_at h (slot i).x) (slot i).y) (slot i).z) (hr.all i hi)⟩
noncomputable def havF (hv : List Sl) : Fr → (Fr → Bool) → Bool := List.rec (motive := fun _ => Fr → (Fr → Bool) → Bool) (fun fr k => k fr) (fun s _ ih fr k => F3.setK s fr .top fun fr => ih fr k) hv
theorem havF_inv : ∀ {hv : List Sl} {fr : Fr} {k : Fr → Bool}, havF hv fr k = true → ∃ f, k f = true ∧ ∀ (σ : Sig) (n : Nat) (tmps : Array Value), RF σ n fr tmps → RF σ n f tmps
  | [], fr, k, h => ⟨fr, h, fun _ _ _ h => h⟩
  | s :: hv, fr, k, h => by
    have h : F3.setK s fr .top (fun fr => havF hv fr k) = true := h
    rw [F3.setK_eq] at h
    obtain ⟨f, h1, h2⟩ := havF_inv h
    refine ⟨f, h1, fun σ n tmps hr => h2 σ n tmps ⟨hr.size, fun i hi => ?_⟩⟩
    rw [F3.at_put]
    split
    · trivial
    · exact hr.all i hi

/-! ### the entries -/
def EntsAll (P : AV → AV → Nat → Prop) : Ents → Prop
  | .nil => True
  | .cons k v b l => P k v b ∧ EntsAll P l
noncomputable def allE (p : AV → AV → Nat → Bool) (es : Ents) : Bool := Ents.rec (motive := fun _ => Bool) true (fun k v b _ ih => sel (p k v b) ih false) es
theorem allE_inv {p : AV → AV → Nat → Bool} : ∀ {es : Ents}, allE p es = true → EntsAll (fun k v b => p k v b = true) es
  | .nil, _ => trivial
  | .cons k v b l, h => by
    have h : sel (p k v b) (allE p l) false = true := h
    obtain ⟨h1, h2⟩ := sel_and h
    exact ⟨h1, allE_inv h2⟩
theorem EL.pick {P : AV → AV → Nat → Prop} : ∀ {es : Ents} {ES : List MapEntry}, EL σ es ES → EntsAll P es → ∀ e ∈ ES, ∃ k v, P k v e.born ∧ V σ k e.key ∧ V σ v e.val
  | .nil, ES, h, _, e, he => by cases (h : ES = []); cases he
  | .cons k v b l, ES, h, ha, e, he => by
    obtain ⟨e0, us, rfl, g1, g2, g3, g4⟩ := h
    rcases List.mem_cons.1 he with rfl | he
    · exact ⟨k, v, by rw [g3]; exact ha.1, g1, g2⟩
    · exact EL.pick g4 ha.2 e he
noncomputable def allLt (es : Ents) (N : Nat) : Bool := Ents.rec (motive := fun _ => Bool) true (fun _ _ b _ ih => sel (Nat.blt b N) ih false) es
theorem allLt_EL {N : Nat} : ∀ {es : Ents} {ES : List MapEntry}, EL σ es ES → allLt es N = true → ∀ e ∈ ES, e.born < N
  | .nil, ES, h, _, e, he => by cases (h : ES = []); cases he
  | .cons k v b l, ES, h, ha, e, he => by
    obtain ⟨e0, us, rfl, g1, g2, g3, g4⟩ := h
    have ha : sel (Nat.blt b N) (allLt l N) false = true := ha
    obtain ⟨h1, h2⟩ := sel_and ha
    rcases List.mem_cons.1 he with rfl | he
    · rw [g3]; exact blt_inv h1
    · exact allLt_EL g4 h2 e he
theorem left_less {ES : List MapEntry} {seen : Array Nat} {e : MapEntry} (he : e ∈ ES) (hs : seen.contains e.born = false) :
    (ES.filter fun x => !(seen.push e.born).contains x.born).length < (ES.filter fun x => !seen.contains x.born).length := by
  have sub : ∀ x : MapEntry, (!(seen.push e.born).contains x.born) = true → (!seen.contains x.born) = true := fun x hx => by
    simp only [Bool.not_eq_true', Array.contains_push, Bool.or_eq_false_iff] at hx ⊢
    exact hx.1
  have le : ∀ l : List MapEntry, (l.filter fun x => !(seen.push e.born).contains x.born).length ≤ (l.filter fun x => !seen.contains x.born).length := by
    intro l
    induction l with
    | nil => exact Nat.le_refl _
    | cons x l ih =>
      simp only [List.filter_cons]
      cases h1 : (!(seen.push e.born).contains x.born) with
      | true => simp only [sub x h1, if_true, List.length_cons]; omega
      | false =>
        simp only [Bool.false_eq_true, if_false]
        split
        · simp only [List.length_cons]; omega
        · exact ih
  induction ES with
  | nil => cases he
  | cons x l ih =>
    rcases List.mem_cons.1 he with rfl | he
    · have h1 : (!(seen.push e.born).contains e.born) = false := by simp
      have h2 : (!seen.contains e.born) = true := by simpa using hs
      simp only [List.filter_cons, h1, h2, Bool.false_eq_true, if_false, if_true, List.length_cons]
      exact Nat.lt_succ_of_le (le l)
    · have := ih he
      simp only [List.filter_cons]
      cases h1 : (!(seen.push e.born).contains x.born) with
      | true => simp only [sub x h1, if_true, List.length_cons]; omega
      | false =>
        simp only [Bool.false_eq_true, if_false]
        split
        · simp only [List.length_cons]; omega
        · exact this

end Go.Ev
end

section
set_option linter.unusedVariables false
set_option linter.unusedSimpArgs false
namespace Go.Ev

variable {X : Cx} {σ : Sig} {n : Nat} {ro : Option Nat} {fr : Fr} {ds : List Df} {h : H} {a : Act} {w : World}

/-! ### a loop over a map's entries, for the kernel -/
noncomputable def onMit (c : Blk) (k : Nat → Nat → Nat → Bool) : Bool := match c with | .mit m since [] last => k m since last | _ => false
theorem onMit_inv {c : Blk} {k : Nat → Nat → Nat → Bool} (h : onMit c k = true) : ∃ m since last, c = .mit m since [] last ∧ k m since last = true := by
  unfold onMit at h
  split at h
  · exact ⟨_, _, _, rfl, h⟩
  · cases h
noncomputable def onSl (a : AV) (k : Nat → Bool) : Bool := match a with | .sl b _ _ _ _ => k b | _ => false
theorem onSl_inv {a : AV} {k : Nat → Bool} (h : onSl a k = true) : ∃ b o l c e, a = .sl b o l c e ∧ k b = true := by
  unfold onSl at h
  split at h
  · exact ⟨_, _, _, _, _, rfl, h⟩
  · cases h
noncomputable def okJ (id2 : Nat) (j : Jump) (k : Bool) : Bool := Jump.rec (motive := fun _ => Bool) k false (fun id => sel (Nat.beq id id2) k false) (fun _ => false) j
theorem okJ_inv {id2 : Nat} {j : Jump} {k : Bool} (h : okJ id2 j k = true) : (Jump.exit' j = .normal ∨ Jump.exit' j = .exit id2) ∧ k = true := by
  cases j with
  | none => exact ⟨.inl rfl, h⟩
  | ret => cases h
  | exit id =>
    obtain ⟨h1, h2⟩ := sel_and h
    exact ⟨.inr (by rw [Nat.eq_of_beq_eq_true h1]; rfl), h2⟩
  | goto l => cases h
/-- the round's memory: nothing but the block b may be written, and of that nothing is known; the iterator stands at an entry -/
noncomputable def roundH (h : H) (b bi : Nat) (x y : Blk) (k : H → Bool) : Bool := H.rec (motive := fun _ => Bool) (fun t next clk => T.setK (some ⟨clk, false, x⟩) 40 (T.mapR roB t) b fun t => T.setK (some ⟨clk, true, y⟩) 40 t bi fun t => k ⟨t, next, clk⟩) h
theorem roundH_inv {b bi : Nat} {x y : Blk} {k : H → Bool} (hk : roundH h b bi x y k = true) : ∃ h', (∀ c, h'.get c = if c = bi then some ⟨h.clk, true, y⟩ else if c = b then some ⟨h.clk, false, x⟩ else (h.get c).map roB) ∧ h'.next = h.next ∧ h'.clk = h.clk ∧ k h' = true := by
  cases h with
  | mk t next clk =>
    have hk : T.setK (some ⟨clk, false, x⟩) 40 (T.mapR roB t) b (fun t => T.setK (some ⟨clk, true, y⟩) 40 t bi fun t => k ⟨t, next, clk⟩) = true := hk
    obtain ⟨t1, h1, hk⟩ := T.setK_inv _ _ _ _ _ hk
    obtain ⟨t2, h2, hk⟩ := T.setK_inv _ _ _ _ _ hk
    refine ⟨⟨t2, next, clk⟩, fun c => ?_, rfl, rfl, hk⟩
    show t2.get c = _
    rw [h2, h1, T.mapR_get]
    rfl
/-- the memory behind the loop -/
noncomputable def behindH (h : H) (b bi N : Nat) (x : Blk) (k : H → Bool) : Bool := H.rec (motive := fun _ => Bool) (fun t next clk => T.setK (some ⟨clk, false, x⟩) 40 t b fun t => T.setK none 40 t bi fun t => k ⟨t, N, clk⟩) h
theorem behindH_inv {b bi N : Nat} {x : Blk} {k : H → Bool} (hk : behindH h b bi N x k = true) : ∃ h', (∀ c, h'.get c = if c = bi then none else if c = b then some ⟨h.clk, false, x⟩ else h.get c) ∧ h'.next = N ∧ h'.clk = h.clk ∧ k h' = true := by
  cases h with
  | mk t next clk =>
    have hk : T.setK (some ⟨clk, false, x⟩) 40 t b (fun t => T.setK none 40 t bi fun t => k ⟨t, N, clk⟩) = true := hk
    obtain ⟨t1, h1, hk⟩ := T.setK_inv _ _ _ _ _ hk
    obtain ⟨t2, h2, hk⟩ := T.setK_inv _ _ _ _ _ hk
    refine ⟨⟨t2, N, clk⟩, fun c => ?_, rfl, rfl, hk⟩
    show t2.get c = _
    rw [h2, h1]
    rfl
noncomputable def yesV (k v : AV) : AV := .tup (.cons (.bool true) (.cons k (.cons v .nil)))
noncomputable def hvEnd (b el fz : Nat) (p z : Bool) (len : Nat) (h : H) : Bool := getB h b fun bl => chk (!bl.ro) (onCells bl.c fun cs el' fz' p' z' => chk (Nat.beq el' el) (chk (Nat.beq fz' fz) (chk (decide (p' = p)) (chk (decide (z' = z)) (rlenK cs 0 fun l => Nat.beq l len)))))
noncomputable def hvOne (self : Slf) (mb : MC) (ro : Option Nat) (s55 s56 : Sl) (id2 : Nat) (frI : Fr) (h : H) (N b bi m cl el fz : Nat) (p z : Bool) (len : Nat) (tp : AV) (k v : AV) (born : Nat) : Bool :=
  F3.setK s55 frI (yesV k v) fun f => F3.setK s56 f (.bool true) fun f => roundH h b bi (.cells tp el fz p z) (.mitL m born cl) fun hI => self mb ro f [] hI fun j fr' ds' h' => okJ id2 j (dsNil ds' (chk (Nat.ble h'.next N) (chk (okF hI.next frI fr') (hvEnd b el fz p z len h'))))
noncomputable def hvK (self : Slf) (si s55 s56 st : Sl) (off : Nat) (hv : List Sl) (id id2 : Nat) (mb : MC) (ro : Option Nat) (fr : Fr) (ds : List Df) (h : H) (K : Kj) : Bool :=
  dsNil ds (havF hv fr fun frI => F3.getK si frI fun ai => onPtr0 ai fun bi => getB h bi fun bli => chk (!bli.ro) (onMit bli.c fun m since last => getB h m fun blm => onMap blm.c fun es cl => chk (allLt es since) (chk (allLt es cl)
    (F3.getK st frI fun at0 => onPtr at0 fun bo oo => getB h bo fun blo => onCells blo.c fun cso _ _ _ _ => AV.nthK (Nat.add oo off) cso fun v => onSl v fun b => chk (!Nat.beq b bi) (chk (!Nat.beq b m) (chk (!Nat.beq m bi)
      (getB h b fun blb => chk (!blb.ro) (onCells blb.c fun csb el fz p z => rlenK csb 0 fun len => repK (.cons .top .nil) len fun tp => fN (Nat.add h.next 100000) fun N =>
        chk (allE (hvOne self mb ro s55 s56 id2 frI h N b bi m cl el fz p z len tp) es)
          (F3.setK s55 frI overV fun f => F3.setK s56 f (.bool false) fun f => behindH h b bi N (.cells tp el fz p z) fun hF => K (.exit id) f [] hF)))))))))

/-- a round's ground -/
structure HvI (X : Cx) (n : Nat) (σ : Sig) (GI G : Hp) (frI : Fr) (ri rm : Nat) (ES : Array MapEntry) (cl since : Nat) (w0 : World) (seen : Array Nat) (a : Act) (w : World) : Prop where
  rf : RF σ n frI a.tmps
  df : a.defers = []
  ok : Ok X σ GI w
  it : ∃ last, w.heap[ri]? = some (.mapIter (some rm) since seen last) ∧ (!seen.isEmpty && !ES.isEmpty && ES.all (fun e => decide (e.born ≥ last))) = false
  mp : w.heap[rm]? = some (.map ES cl)
  os : w.os = w0.os
  tape : w.tape = w0.tape
  output : w.output = w0.output
  size : w0.heap.size ≤ w.heap.size
  frame : ∀ r, r < w0.heap.size → ¬ Owned σ G r → w.heap[r]? = w0.heap[r]?

theorem tops_len {σ : Sig} {vs : List Value} {m : Nat} (h : vs.length = m) : VL σ ((AV.cons .top .nil).rep m) vs := by subst h; exact tops_VL
theorem rep_len : ∀ m : Nat, ((AV.cons .top .nil).rep m).len = m
  | 0 => rfl
  | m + 1 => by
    show (AV.app (.cons .top .nil) _).len = _
    simp only [AV.app, AV.len, rep_len m]
theorem relC_tops {B : Bk} {cs : AV} {el fz : Nat} {p z : Bool} {τ : Sig} (h : RelC X σ w B (.cells cs el fz p z)) : RelC X τ w B (.cells ((AV.cons .top .nil).rep cs.len) el fz p z) := by
  obtain ⟨C, f, h2, h3, ⟨vs, h4, h5⟩, h6⟩ := h
  exact ⟨C, f, h2, h3, ⟨vs, tops_len h4.len, h5⟩, h6⟩

end Go.Ev
end

section
set_option linter.unusedVariables false
set_option linter.unusedSimpArgs false
namespace Go.Ev

variable {X : Cx} {σ : Sig} {n : Nat} {ro : Option Nat} {fr : Fr} {ds : List Df} {h : H} {a : Act} {w : World}

/-- one pass of the loop's code: an entry, or none -/
theorem hv_pass {it t1 t2 id id2 : Nat} {i1 : Nat} {ops : Array Oper} {o1 o2 : Oper} {B : Code} {rm : Option Nat}
    (hops : ops.toList = [o1, o2]) (h1 : o1.op = .next (.tmp it) false) (d1 : o1.dst = some t1) (g1 : o1.guard = none) (h2 : o2.op = .extract (.tmp t1) 0) (d2 : o2.dst = some t2) (g2 : o2.guard = none)
    (b1 : t1 < n) (b2 : t2 < n) (hsz : a.tmps.size = n) {v : Array Value} {y : Bool} (hv0 : v[0]? = some (.bool y)) {w' : World} (hnext : (Instr.next (a.tmps.getD it undef) false o1.type).run X.P w = .ok (.tuple v) w') {Q : Exit → Act → World → Prop}
    (hQ : if y = true then Code.wpIn (Fw rm) 0 X.P (.block id2 B) Q ((a.put (some t1) (.tuple v)).put (some t2) (.bool y)) w' else Q (.exit id) ((a.put (some t1) (.tuple v)).put (some t2) (.bool y)) w') :
    Code.wpIn (Fw rm) 0 X.P (.seq (.region i1 ops false) (.seq (.cond (.tmp t2) .skip (.exit id)) (.block id2 B))) Q a w := by
  have hops' : ops = #[o1, o2] := by apply Array.toList_inj.1; rw [hops]
  subst hops'
  refine wpIn_seq (wpIn_region ?_)
  have w1 : ∀ (o : Oper) y, o.guard = none → Region.wanted o y = true := fun o y hg => by simp [Region.wanted, hg]
  have hrange : List.range (#[o1, o2] : Array Oper).size = [0, 1] := rfl
  rw [hrange, wpOpsIn_cons]
  have e0 : (#[o1, o2] : Array Oper)[0]? = some o1 := rfl
  have e1 : (#[o1, o2] : Array Oper)[1]? = some o2 := rfl
  unfold wpOpIn
  simp only [e0, w1 o1 _ g1, if_true]
  refine ⟨fun _ _ => trivial, ?_⟩
  have hs1 : (o1.semAt (Fw rm).round a.eval).run X.P w = .ok (.value (.tuple v)) w' := by
    rw [Oper.semAt_eq _ _ _ (fun c h => by rw [h1] at h; cases h)]
    simp only [execOp, h1]
    exact run_exec_value hnext
  rw [hs1, Oper.uponIn_value, d1, wpOpsIn_cons]
  unfold wpOpIn
  simp only [e1, w1 o2 _ g2, if_true]
  refine ⟨fun _ _ => trivial, ?_⟩
  have ht1 : (a.put (some t1) (.tuple v)).tmps.getD t1 undef = .tuple v := by
    simp [Act.put, Array.getD, hsz, b1]
  have hs2 : (o2.semAt (Fw rm).round (a.put (some t1) (.tuple v)).eval).run X.P w' = .ok (.value (.bool y)) w' := by
    rw [Oper.semAt_eq _ _ _ (fun c h => by rw [h2] at h; cases h)]
    simp only [execOp, h2]
    refine run_exec_value ?_
    have : (a.put (some t1) (.tuple v)).eval (.tmp t1) = .tuple v := ht1
    rw [this]
    simp [Instr.extract, hv0]
  rw [hs2, Oper.uponIn_value, d2]
  show Code.wpIn (Fw rm) 0 X.P (.seq (.cond (.tmp t2) .skip (.exit id)) (.block id2 B)) Q ((a.put (some t1) (.tuple v)).put (some t2) (.bool y)) w'
  have hc : ((a.put (some t1) (.tuple v)).put (some t2) (.bool y)).eval (.tmp t2) = .bool y := by
    show ((a.put (some t1) (.tuple v)).put (some t2) (.bool y)).tmps.getD t2 undef = .bool y
    simp [Act.put, Array.getD, hsz, b2]
  cases y with
  | true =>
    refine wpIn_seq (wpIn_cond_true hc (wpIn_skip ?_))
    exact hQ
  | false =>
    refine wpIn_seq (wpIn_cond_false hc (wpIn_exit ?_))
    exact hQ

end Go.Ev
end

section
set_option linter.unusedVariables false
set_option linter.unusedSimpArgs false
namespace Go.Ev

variable {X : Cx} {σ : Sig} {n : Nat} {ro : Option Nat} {fr : Fr} {ds : List Df} {h : H} {a : Act} {w : World}

theorem hvPat_inv {c : Code} {it t1 t2 id id2 : Nat} {B : Code} (h : hvPat c = some (it, t1, t2, id, id2, B)) : ∃ i1 ops o1 o2, c = .seq (.region i1 ops false) (.seq (.cond (.tmp t2) .skip (.exit id)) (.block id2 B)) ∧ ops.toList = [o1, o2] ∧
    o1.op = .next (.tmp it) false ∧ o1.dst = some t1 ∧ o1.guard = none ∧ o2.op = .extract (.tmp t1) 0 ∧ o2.dst = some t2 ∧ o2.guard = none ∧ t1 ≠ t2 := by
  unfold hvPat at h
  split at h
  · rename_i i1 ops t3 id' id2' B'
    split at h
    · rename_i o1 o2 ho
      split at h
      · rename_i it' t1' t1'' t2' e1 e2 e3 e4 e5 e6
        split at h
        · rename_i hh
          obtain ⟨rfl, rfl, hne⟩ := hh
          cases h
          exact ⟨i1, ops, o1, o2, rfl, ho, e1, e2, e3, e4, e5, e6, hne⟩
        · cases h
      · cases h
    · cases h
  · cases h
theorem hvMC_inv {g : Nat} {c : Code} {x y : MC} (hcx : compC X.E X.ng n g c = some x) (h : hvMC X.E n g c x = some y) : ∃ it t1 t2 t off l id id2 B mb, hvPat c = some (it, t1, t2, id, id2, B) ∧ compC X.E X.ng n g B = some mb ∧ it < n ∧ t1 < n ∧ t2 < n ∧ t < n ∧ n ≤ 343 ∧
    y = .hloop (slot it) (slot t1) (slot t2) (slot t) off l id id2 mb := by
  unfold hvMC at h
  split at h
  · rename_i t off l it t1 t2 id id2 B r cc i3 mb e1 e2
    split at h
    · rename_i a b c' d l' h1 h2 h3 h4 h5
      cases h
      obtain ⟨p1, p2, rfl⟩ := sl_inv h1
      obtain ⟨p3, _, rfl⟩ := sl_inv h2
      obtain ⟨p4, _, rfl⟩ := sl_inv h3
      obtain ⟨p5, _, rfl⟩ := sl_inv h4
      obtain ⟨i1, ops, o1, o2, rfl, _⟩ := hvPat_inv e2
      -- the parts of the compiled code
      rw [compC] at hcx
      split at hcx
      · rename_i x1 x2 q1 q2
        simp only [Option.some.injEq, MC.seq.injEq] at hcx
        obtain ⟨rfl, rfl⟩ := hcx
        rw [compC] at q2
        split at q2
        · rename_i x3 x4 q3 q4
          simp only [Option.some.injEq, MC.seq.injEq] at q2
          obtain ⟨rfl, rfl⟩ := q2
          rw [compC] at q4
          split at q4
          · rename_i x5 q5
            simp only [Option.some.injEq, MC.block.injEq] at q4
            obtain ⟨rfl, rfl⟩ := q4
            exact ⟨it, t1, t2, t, off, l', id, id2, B, x5, e2, q5, p1, p3, p4, p5, p2, rfl⟩
          · cases q4
        · cases q2
      · cases hcx
    · cases h
  · cases h

theorem hvK_does {self : Slf} (hself : SelfOK X self) {g : Nat} {c : Code} {x : MC} {si s55 s56 st : Sl} {off id id2 : Nat} {hv : List Sl} {mb : MC} (hcx : compC X.E X.ng n g c = some x) (hmc : hvMC X.E n g c x = some (.hloop si s55 s56 st off hv id id2 mb))
    (hrf : rfAll ((lpOf X.P g).map (·.2)) c) (hlp : ∀ q, lpOf X.P g = some q → q.1 = n) {K : Kj} (hk : hvK self si s55 s56 st off hv id id2 mb ro fr ds h K = true) :
    ∃ o, o.e = .exit id ∧ K (.exit id) o.fr o.ds o.h = true ∧ Mv h o.h ∧ CDoes X n ro [.code (.loop c)] fr ds h o := by
  obtain ⟨it, t1, t2, t, off', l, id', id2', B, mb', hpat, hcB, bit, bt1, bt2, bt, hn3, he⟩ := hvMC_inv hcx hmc
  simp only [MC.hloop.injEq] at he
  obtain ⟨rfl, rfl, rfl, rfl, rfl, rfl, rfl, rfl, rfl⟩ := he
  obtain ⟨i1, ops, o1, o2, rfl, hops, e1, d1, g1, e2, d2, g2, hne⟩ := hvPat_inv hpat
  have hrfB : rfAll ((lpOf X.P g).map (·.2)) B := hrf.2.2
  have hrep : Rep X n g mb [.code B] := .code hcB hrfB hlp
  unfold hvK at hk
  obtain ⟨hds, hk⟩ := dsNil_inv hk
  subst hds
  obtain ⟨frI, hk, hfrI⟩ := havF_inv hk
  rw [F3.getK_eq] at hk
  obtain ⟨bi, hsi, hk⟩ := onPtr0_inv hk
  obtain ⟨bli, hbi, hk⟩ := getB_inv hk
  obtain ⟨hroi, hk⟩ := chk_eq hk
  obtain ⟨m, since, last, hci, hk⟩ := onMit_inv hk
  obtain ⟨blm, hbm, hk⟩ := getB_inv hk
  obtain ⟨es, cl, hcm, hk⟩ := onMap_inv hk
  obtain ⟨hlt1, hk⟩ := chk_eq hk
  obtain ⟨hlt2, hk⟩ := chk_eq hk
  rw [F3.getK_eq] at hk
  obtain ⟨bo, oo, hst, hk⟩ := onPtr_inv hk
  obtain ⟨blo, hbo, hk⟩ := getB_inv hk
  obtain ⟨cso, elo, fzo, po, zo, hco, hk⟩ := onCells_inv hk
  obtain ⟨v, hv0, hk⟩ := AV.nthK_inv hk
  obtain ⟨b, so, sll, scp, sex, hvb, hk⟩ := onSl_inv hk
  obtain ⟨n1, hk⟩ := chk_eq hk
  obtain ⟨n2, hk⟩ := chk_eq hk
  obtain ⟨n3, hk⟩ := chk_eq hk
  obtain ⟨blb, hbb, hk⟩ := getB_inv hk
  obtain ⟨hrob, hk⟩ := chk_eq hk
  obtain ⟨csb, el, fz, p, z, hcb, hk⟩ := onCells_inv hk
  obtain ⟨hk, hrow⟩ := rlenK_inv hk
  rw [Nat.zero_add] at hk
  have hk := repK_inv hk
  rw [fN_eq] at hk
  obtain ⟨hall, hk⟩ := chk_eq hk
  rw [F3.setK_eq, F3.setK_eq] at hk
  obtain ⟨hF, hFg, hFn, hFc, hk⟩ := behindH_inv hk
  have hall := allE_inv hall
  have n1 : b ≠ bi := fun e => by subst e; rw [Nat.beq_refl] at n1; cases n1
  have n2 : b ≠ m := fun e => by subst e; rw [Nat.beq_refl] at n2; cases n2
  have n3 : m ≠ bi := fun e => by subst e; rw [Nat.beq_refl] at n3; cases n3
  have hroi : bli.ro = false := by simpa using hroi
  have hrob : blb.ro = false := by simpa using hrob
  have hFn : hF.next = h.next + 100000 := hFn
  have mv : Mv h hF := by
    refine ⟨by omega, by omega, fun c x hne hx => ?_, fun c hne => ?_⟩
    · rw [hFg] at hne hx
      split at hx
      · cases hx
      · split at hx
        · cases hx; exact Nat.le_refl _
        · rename_i q1 q2; rw [if_neg q1, if_neg q2] at hne; exact absurd rfl hne
    · rw [hFg] at hne
      split at hne
      · rename_i e; subst e; exact .inl (by rw [hbi]; simp)
      · split at hne
        · rename_i e; subst e; exact .inl (by rw [hbb]; simp)
        · exact absurd rfl hne
  refine ⟨⟨.exit id, _, [], hF⟩, rfl, hk, mv, .loop fun σ G a w rm hro hf hd ho he hfr => ?_⟩
  -- what lies there
  have hGbi := he bi bli hbi
  have hGm := he m blm hbm
  have hGb := he b blb hbb
  obtain ⟨BI, hBI, hrI⟩ := ho.rel bi bli hGbi
  rw [hci] at hrI
  obtain ⟨hBIo, M, hM, hit⟩ := hrI
  obtain ⟨M', hM', hrM⟩ := ho.rel m blm hGm
  rw [hM] at hM'; cases hM'
  rw [hcm] at hrM
  obtain ⟨ES, hmp, hEL⟩ := hrM
  obtain ⟨BB, hBB, hrB⟩ := ho.rel b blb hGb
  rw [hcb] at hrB
  have hne1 : BI.r ≠ BB.r := ho.sep bi b BI BB bli blb (Ne.symm n1) hGbi hGb hBI hBB
  have hne2 : M.r ≠ BB.r := ho.sep m b M BB blm blb (Ne.symm n2) hGm hGb hM hBB
  have hne3 : M.r ≠ BI.r := ho.sep m bi M BI blm bli n3 hGm hGbi hM hBI
  let GI : Hp := fun c => if c = bi then none else if c = b then some ⟨h.clk, false, .cells ((AV.cons .top .nil).rep csb.len) el fz p z⟩ else G c
  have hGI : app (diff h.get hF.get) G = GI := by
    funext c
    show ((diff h.get hF.get) c).getD (G c) = _
    unfold diff
    rw [hFg]
    show _ = if c = bi then none else if c = b then some _ else G c
    by_cases c1 : c = bi
    · subst c1
      rw [if_pos rfl, if_neg (by rw [hbi]; simp), if_pos rfl]; rfl
    · rw [if_neg c1, if_neg c1]
      by_cases c2 : c = b
      · subst c2
        rw [if_pos rfl, if_pos rfl]
        split
        · rename_i q; show G c = _; rw [hGb]; rw [hbb] at q; exact q.symm
        · rfl
      · rw [if_neg c2, if_neg c2, if_pos rfl]; rfl
  let Gro : Nat → Hp := fun β c => if c = bi then some ⟨h.clk, true, .mitL m β cl⟩ else if c = b then some ⟨h.clk, false, .cells ((AV.cons .top .nil).rep csb.len) el fz p z⟩ else (G c).map roB
  have hext : ∀ (β : Nat) (hI : H), (∀ c, hI.get c = if c = bi then some ⟨h.clk, true, .mitL m β cl⟩ else if c = b then some ⟨h.clk, false, .cells ((AV.cons .top .nil).rep csb.len) el fz p z⟩ else (h.get c).map roB) → Ext (Gro β) hI.get := by
    intro β hI hIg c x hx
    rw [hIg] at hx
    show (if c = bi then some _ else if c = b then some _ else (G c).map roB) = some x
    split at hx
    · rename_i c1; rw [if_pos c1]; exact hx
    · rename_i c1
      rw [if_neg c1]
      split at hx
      · rename_i c2; rw [if_pos c2]; exact hx
      · rename_i c2
        rw [if_neg c2]
        cases hg : h.get c with
        | none => rw [hg] at hx; cases hx
        | some y => rw [hg] at hx; rw [he c y hg]; exact hx
  have gro : ∀ {β c : Nat} {x : Bl}, Gro β c = some x → (c = bi ∧ x = ⟨h.clk, true, .mitL m β cl⟩) ∨ (c ≠ bi ∧ c = b ∧ x = ⟨h.clk, false, .cells ((AV.cons .top .nil).rep csb.len) el fz p z⟩) ∨ (c ≠ bi ∧ c ≠ b ∧ ∃ y, G c = some y ∧ x = roB y) := fun {β c x} hx => by
    have hx : (if c = bi then some (⟨h.clk, true, .mitL m β cl⟩ : Bl) else if c = b then some (⟨h.clk, false, .cells ((AV.cons .top .nil).rep csb.len) el fz p z⟩ : Bl) else (G c).map roB) = some x := hx
    split at hx
    · rename_i c1; cases hx; exact .inl ⟨c1, rfl⟩
    · rename_i c1
      split at hx
      · rename_i c2; cases hx; exact .inr (.inl ⟨c1, c2, rfl⟩)
      · rename_i c2
        cases hg : G c with
        | none => rw [hg] at hx; cases hx
        | some y => rw [hg] at hx; cases hx; exact .inr (.inr ⟨c1, c2, y, rfl, rfl⟩)
  -- out of the ground at hand: all that may not be written
  have okro : ∀ {w : World} {β : Nat}, Ok X σ GI w → RelC X σ w BI (.mitL m β cl) → Ok X σ (Gro β) w := by
    intro w β hok hbi'
    have low : ∀ {c : Nat} {x : Bl}, Gro β c = some x → ∃ y, G c = some y := fun {c x} hx => by
      rcases gro hx with ⟨rfl, _⟩ | ⟨_, rfl, _⟩ | ⟨_, _, y, hy, _⟩
      · exact ⟨_, hGbi⟩
      · exact ⟨_, hGb⟩
      · exact ⟨y, hy⟩
    refine ⟨fun c x hx => ?_, fun c c' C C' x x' hcc hx hx' hC hC' => ?_, hok.sane⟩
    · rcases gro hx with ⟨rfl, rfl⟩ | ⟨c1, rfl, rfl⟩ | ⟨c1, c2, y, hy, rfl⟩
      · exact ⟨BI, hBI, hbi'⟩
      · refine hok.rel c ⟨h.clk, false, .cells ((AV.cons .top .nil).rep csb.len) el fz p z⟩ ?_
        show (if c = bi then none else if c = c then some _ else G c) = some _
        rw [if_neg c1, if_pos rfl]
      · refine hok.rel c y ?_
        show (if c = bi then none else if c = b then some _ else G c) = some y
        rw [if_neg c1, if_neg c2]; exact hy
    · obtain ⟨y, hy⟩ := low hx
      obtain ⟨y', hy'⟩ := low hx'
      exact ho.sep c c' C C' y y' hcc hy hy' hC hC'
  have ownro : ∀ β r, Owned σ (Gro β) r → r = BB.r := by
    rintro β r ⟨c, x, C, hx, hxr, hC, rfl⟩
    rcases gro hx with ⟨rfl, rfl⟩ | ⟨_, rfl, rfl⟩ | ⟨_, _, y, _, rfl⟩
    · cases hxr
    · rw [hBB] at hC; cases hC; rfl
    · rw [roB_ro] at hxr; cases hxr
  have ownB : Owned σ G BB.r := ⟨b, blb, BB, hGb, hrob, hBB, rfl⟩
  have ownI : Owned σ G BI.r := ⟨bi, bli, BI, hGbi, hroi, hBI, rfl⟩
  have gi : ∀ {c : Nat} {x : Bl}, GI c = some x → c ≠ bi ∧ (c = b ∧ x = ⟨h.clk, false, .cells ((AV.cons .top .nil).rep csb.len) el fz p z⟩ ∨ c ≠ b ∧ G c = some x) := fun {c x} hx => by
    have hx : (if c = bi then none else if c = b then some (⟨h.clk, false, .cells ((AV.cons .top .nil).rep csb.len) el fz p z⟩ : Bl) else G c) = some x := hx
    split at hx
    · cases hx
    · rename_i c1
      refine ⟨c1, ?_⟩
      split at hx
      · rename_i c2; cases hx; exact .inl ⟨c2, rfl⟩
      · rename_i c2; exact .inr ⟨c2, hx⟩
  -- the ground at the beginning
  have hlt1 : ∀ e ∈ ES, e.born < since := fun e he' => allLt_EL hEL hlt1 e (Array.mem_toList_iff.2 he')
  have hlt2 : ∀ e ∈ ES, e.born < cl := fun e he' => allLt_EL hEL hlt2 e (Array.mem_toList_iff.2 he')
  have okGI : Ok X σ GI w := by
    refine ⟨fun c x hx => ?_, fun c c' C C' x x' hcc hx hx' hC hC' => ?_, ho.sane⟩
    · obtain ⟨c1, ⟨rfl, rfl⟩ | ⟨c2, hx⟩⟩ := gi hx
      · exact ⟨BB, hBB, relC_tops hrB⟩
      · exact ho.rel c x hx
    · have low : ∀ {c : Nat} {x : Bl}, GI c = some x → ∃ y, G c = some y := fun hx => by
        obtain ⟨_, ⟨rfl, rfl⟩ | ⟨_, hx⟩⟩ := gi hx
        · exact ⟨_, hGb⟩
        · exact ⟨_, hx⟩
      obtain ⟨y, hy⟩ := low hx
      obtain ⟨y', hy'⟩ := low hx'
      exact ho.sep c c' C C' y y' hcc hy hy' hC hC'
  have start : HvI X n σ GI G frI BI.r M.r ES cl since w #[] a w := ⟨hfrI σ n a.tmps hf, hd, okGI, ⟨last, hit, by simp⟩, hmp, rfl, rfl, rfl, Nat.le_refl _, fun _ _ _ => rfl⟩
  have ptr : ∀ (a1 : Act), RF σ n frI a1.tmps → a1.tmps.getD it undef = .pointer (some ⟨BI.r, 0, none⟩) := fun a1 h1 => by
    have hv := RF.slot (a := a1) h1 bit
    rw [hsi] at hv
    obtain ⟨B', hB', e⟩ := hv.ptr_inv
    rw [hBI] at hB'; cases hB'
    rw [e, hBIo]
  -- no entry is left
  have hvStop : ∀ (seen : Array Nat) (a1 : Act) (w1 : World), (ES.toList.filter fun x => !seen.contains x.born) = [] → HvI X n σ GI G frI BI.r M.r ES cl since w seen a1 w1 →
      RunIn (Fw rm) X.P [.code (.seq (.region i1 ops false) (.seq (.cond (.tmp t2) .skip (.exit id)) (.block id2 B))), .inLoop (.seq (.region i1 ops false) (.seq (.cond (.tmp t2) .skip (.exit id)) (.block id2 B)))]
        (EndQ X n σ G w h ⟨.exit id, F3.put (F3.put frI (slot t1) overV) (slot t2) (.bool false), [], hF⟩) a1 w1 := by
    intro seen a1 w1 hl hI1
    obtain ⟨last', hit', hq'⟩ := hI1.it
    have hnext : (Instr.next (a1.tmps.getD it undef) false o1.type).run X.P w1 = .ok (.tuple #[.bool false]) w1 := by
      rw [ptr a1 hI1.rf]
      refine next_none hit' hI1.mp hq' ?_
      apply Array.toList_inj.1
      rw [Array.toList_filter]; exact hl
    have hpost : Post X σ G w h.next hF.next σ (app (diff h.get hF.get) G) w1 := by
      rw [hGI]
      refine ⟨.refl _, fun _ _ => rfl, hI1.ok, hI1.os, hI1.tape, hI1.output, hI1.size, hI1.frame, fun r hr => .inl ?_⟩
      obtain ⟨c, x, C, hx, hxr, hC, rfl⟩ := hr
      obtain ⟨c1, ⟨rfl, rfl⟩ | ⟨c2, hx⟩⟩ := gi hx
      · rw [hBB] at hC; cases hC; exact ownB
      · exact ⟨c, x, C, hx, hxr, hC, rfl⟩
    intro bF kF cs hbF hFF hrF
    have hC := hv_pass (B := B) (id := id) (id2 := id2) (i1 := i1) (rm := rm) hops e1 d1 g1 e2 d2 g2 bt1 bt2 hI1.rf.size (v := #[.bool false]) (y := false) rfl hnext
      (Q := EndQ X n σ G w h ⟨.exit id, F3.put (F3.put frI (slot t1) overV) (slot t2) (.bool false), [], hF⟩) (by
        rw [if_neg (by simp)]
        refine ⟨rfl, σ, ?_, ?_, hpost⟩
        · have q1 : cdst n (some t1) = some (.some (slot t1)) := by simp [cdst, sl, bt1, hn3]
          have q2 : cdst n (some t2) = some (.some (slot t2)) := by simp [cdst, sl, bt2, hn3]
          exact RF.put q2 (RF.put q1 hI1.rf overV_V) rfl
        · rw [put_defers, put_defers]; exact hI1.df)
    obtain ⟨e, a2, w2, hq, harr⟩ := hC bF (.inLoop (.seq (.region i1 ops false) (.seq (.cond (.tmp t2) .skip (.exit id)) (.block id2 B))) :: kF) cs hbF hFF hrF
    obtain ⟨rfl, rest⟩ := hq
    exact ⟨.exit id, a2, w2, ⟨rfl, rest⟩, .pass (x := .inLoop _) rfl (fun _ _ => .inl (by simp)) harr⟩
  -- an entry
  have hvGo : ∀ (k : Nat), (∀ (seen : Array Nat) (a1 : Act) (w1 : World), (ES.toList.filter fun x => !seen.contains x.born).length ≤ k → HvI X n σ GI G frI BI.r M.r ES cl since w seen a1 w1 →
        RunIn (Fw rm) X.P [.code (.seq (.region i1 ops false) (.seq (.cond (.tmp t2) .skip (.exit id)) (.block id2 B))), .inLoop (.seq (.region i1 ops false) (.seq (.cond (.tmp t2) .skip (.exit id)) (.block id2 B)))]
          (EndQ X n σ G w h ⟨.exit id, F3.put (F3.put frI (slot t1) overV) (slot t2) (.bool false), [], hF⟩) a1 w1) →
      ∀ (seen : Array Nat) (a1 : Act) (w1 : World), (ES.toList.filter fun x => !seen.contains x.born).length ≤ k + 1 → (ES.toList.filter fun x => !seen.contains x.born) ≠ [] → HvI X n σ GI G frI BI.r M.r ES cl since w seen a1 w1 →
        RunIn (Fw rm) X.P [.code (.seq (.region i1 ops false) (.seq (.cond (.tmp t2) .skip (.exit id)) (.block id2 B))), .inLoop (.seq (.region i1 ops false) (.seq (.cond (.tmp t2) .skip (.exit id)) (.block id2 B)))]
          (EndQ X n σ G w h ⟨.exit id, F3.put (F3.put frI (slot t1) overV) (slot t2) (.bool false), [], hF⟩) a1 w1 := by
    intro k ih seen a1 w1 hk1 hl0 hI1
    obtain ⟨last', hit', hq'⟩ := hI1.it
    have hne0 : ES.filter (fun e => !seen.contains e.born) ≠ #[] := fun e => hl0 (by rw [← Array.toList_filter, e])
    obtain ⟨e, w2, hmem, hun, q1, q2, q3, q4, hnx⟩ := next_any (X := X) (ty := o1.type) hit' hI1.mp hq' hlt1 hne0
    obtain ⟨w3, r1, r2, r3⟩ := setObj_only (X := X) (w := w2) (o' := .mapIter (some M.r) since (seen.push e.born) cl) (by rw [q1]; exact hit') (by simp)
    have hnext := hnx w3 r1
    rw [← ptr a1 hI1.rf] at hnext
    -- this entry's round, as reckoned
    obtain ⟨kv, vv, hone, hVk, hVv⟩ := EL.pick hEL hall e (Array.mem_toList_iff.2 hmem)
    unfold hvOne at hone
    rw [F3.setK_eq, F3.setK_eq] at hone
    obtain ⟨hI, hIg, hIn, hIc, hone⟩ := roundH_inv hone
    obtain ⟨j, oB, eB, hone, mvB, hdoB⟩ := hself n g mb _ hrep ro _ _ _ _ hone
    obtain ⟨hj, hone⟩ := okJ_inv hone
    obtain ⟨hdsB, hone⟩ := dsNil_inv hone
    obtain ⟨hN, hone⟩ := chk_eq hone
    obtain ⟨hokF, hend⟩ := chk_eq hone
    unfold hvEnd at hend
    obtain ⟨blE, hbE, hend⟩ := getB_inv hend
    obtain ⟨hroE, hend⟩ := chk_eq hend
    obtain ⟨csE, elE, fzE, pE, zE, hcE, hend⟩ := onCells_inv hend
    obtain ⟨x1, hend⟩ := chk_eq hend
    obtain ⟨x2, hend⟩ := chk_eq hend
    obtain ⟨x3, hend⟩ := chk_eq hend
    obtain ⟨x4, hend⟩ := chk_eq hend
    obtain ⟨hend, _⟩ := rlenK_inv hend
    rw [beq_true] at x1 x2
    have x3 := of_decide_eq_true x3
    have x4 := of_decide_eq_true x4
    rw [Nat.zero_add] at hend
    have hlenE := Nat.eq_of_beq_eq_true hend
    subst x1 x2 x3 x4
    rw [ble_true] at hN
    have heap23 : ∀ r, r ≠ BI.r → w3.heap[r]? = w1.heap[r]? := fun r hr => by rw [r3.oth r hr, q1]
    have ok3 : Ok X σ GI w3 := ⟨fun c x hx => by
      obtain ⟨C, g1', g2'⟩ := hI1.ok.rel c x hx
      refine ⟨C, g1', g2'.turn (heap23 _ ?_)⟩
      obtain ⟨c1, ⟨rfl, _⟩ | ⟨c2, hxG⟩⟩ := gi hx
      · rw [hBB] at g1'; cases g1'; exact Ne.symm hne1
      · exact ho.sep c bi C BI x bli c1 hxG hGbi g1' hBI, hI1.ok.sep, hI1.ok.sane⟩
    have c1 : cdst n (some t1) = some (.some (slot t1)) := by simp [cdst, sl, bt1, hn3]
    have c2 : cdst n (some t2) = some (.some (slot t2)) := by simp [cdst, sl, bt2, hn3]
    have hVyes : V σ (yesV kv vv) (.tuple #[.bool true, e.key, e.val]) := ⟨_, rfl, VL.cons rfl (VL.cons hVk (VL.cons hVv VL.nil))⟩
    have hRF2 : RF σ n (F3.put (F3.put frI (slot t1) (yesV kv vv)) (slot t2) (.bool true)) ((a1.put (some t1) (.tuple #[.bool true, e.key, e.val])).put (some t2) (.bool true)).tmps := RF.put c2 (RF.put c1 hI1.rf hVyes) rfl
    have hDF2 : DF σ [] ((a1.put (some t1) (.tuple #[.bool true, e.key, e.val])).put (some t2) (.bool true)).defers := by rw [put_defers, put_defers]; exact hI1.df
    have hfr2 : ∀ c, hI.next ≤ c → c < oB.h.next → σ.bk c = none := fun c p q => hfr c (by rw [hIn] at p; exact p) (by show c < hF.next; rw [hFn]; exact Nat.lt_of_lt_of_le q hN)
    have rel3 : RelC X σ w3 BI (.mitL m e.born cl) := ⟨hBIo, M, since, seen.push e.born, hM, r2, by simp⟩
    have hB := hdoB σ (Gro e.born) _ w3 rm hro hRF2 hDF2 (okro ok3 rel3) (hext e.born hI hIg) hfr2
    -- behind the round
    have behind : ∀ (a' : Act) (w' : World), EndQ X n σ (Gro e.born) w3 hI oB oB.e a' w' → HvI X n σ GI G frI BI.r M.r ES cl since w (seen.push e.born) a' w' := by
      rintro a' w' ⟨_, τ, p1, p2, p3⟩
      have bk : ∀ c, c < hI.next → τ.bk c = σ.bk c := fun c hc => p3.out c (by omega)
      have hsz3 : w3.heap.size = w1.heap.size := by rw [r3.size, q1]
      have keep : ∀ r, r < w1.heap.size → r ≠ BB.r → w'.heap[r]? = w3.heap[r]? := fun r hr hrb => p3.frame r (by omega) fun ho' => hrb (ownro _ r ho')
      have hGrob : Gro e.born b = some ⟨h.clk, false, .cells ((AV.cons .top .nil).rep csb.len) elE fzE pE zE⟩ := by
        show (if b = bi then some _ else if b = b then some _ else (G b).map roB) = _
        rw [if_neg n1, if_pos rfl]
      have hIb : hI.get b = some ⟨h.clk, false, .cells ((AV.cons .top .nil).rep csb.len) elE fzE pE zE⟩ := by
        rw [hIg, if_neg n1, if_pos rfl]
      have hEb : app (diff hI.get oB.h.get) (Gro e.born) b = some blE := by
        unfold app diff
        by_cases q : oB.h.get b = hI.get b
        · rw [if_pos q]; show Gro e.born b = _; rw [hGrob, ← hIb, ← q]; exact hbE
        · rw [if_neg q]; exact hbE
      obtain ⟨BE, hBE, hrE⟩ := p3.ok.rel b blE hEb
      have : BE = BB := by
        have := p3.le.1 b BB hBB
        rw [hBE] at this; cases this; rfl
      subst this
      rw [hcE] at hrE
      have hltI : BI.r < w1.heap.size := (Array.getElem?_eq_some_iff.1 hit').1
      have hltM : M.r < w1.heap.size := (Array.getElem?_eq_some_iff.1 hI1.mp).1
      refine ⟨okF_RF p3.le bk hokF p1, ?_, ⟨fun c x hx => ?_, hI1.ok.sep, hI1.ok.sane⟩, ⟨cl, ?_, ?_⟩, ?_, ?_, ?_, ?_, ?_, ?_⟩
      · rw [hdsB] at p2; exact p2
      · obtain ⟨d1', ⟨rfl, rfl⟩ | ⟨d2', hxG⟩⟩ := gi hx
        · refine ⟨BE, hBB, ?_⟩
          have := relC_tops (τ := σ) hrE
          rw [hlenE] at this
          exact this
        · obtain ⟨C, g1', g2'⟩ := ok3.rel c x hx
          refine ⟨C, g1', g2'.turn (p3.frame _ g2'.lt fun ho' => ?_)⟩
          exact ho.sep c b C BE x blb d2' hxG hGb g1' hBB (ownro _ _ ho')
      · rw [keep _ hltI hne1]; exact r2
      · have hES : ES.all (fun e => decide (e.born ≥ cl)) = false := by
          cases hh : ES.all (fun e => decide (e.born ≥ cl)) with
          | false => rfl
          | true =>
            have := Array.all_eq_true'.1 hh e hmem
            have h2 := hlt2 e hmem
            have h3 := of_decide_eq_true this
            omega
        rw [hES, Bool.and_false]
      · rw [keep _ hltM hne2, heap23 _ hne3]; exact hI1.mp
      · rw [p3.os, r3.os, q2]; exact hI1.os
      · rw [p3.tape, r3.tape, q3]; exact hI1.tape
      · rw [p3.output, r3.output, q4]; exact hI1.output
      · have := p3.size; have := hI1.size; omega
      · intro r hr hno
        have h1 : r ≠ BE.r := fun e' => hno (e' ▸ ownB)
        have h2 : r ≠ BI.r := fun e' => hno (e' ▸ ownI)
        rw [keep r (Nat.lt_of_lt_of_le hr hI1.size) h1, heap23 r h2]
        exact hI1.frame r hr hno
    have hC := hv_pass (B := B) (id := id) (id2 := id2) (i1 := i1) (rm := rm) hops e1 d1 g1 e2 d2 g2 bt1 bt2 hI1.rf.size (v := #[.bool true, e.key, e.val]) (y := true) rfl hnext
      (Q := fun e' a' w' => e' = .normal ∧ HvI X n σ GI G frI BI.r M.r ES cl since w (seen.push e.born) a' w') (by
        rw [if_pos rfl]
        refine wpIn_block (wpIn_mono (RunIn.code.1 hB) ?_)
        intro e' a' w' hq
        have he' := hq.1
        subst he'
        have hb' := behind a' w' hq
        rw [eB]
        rcases hj with hj | hj
        · rw [hj]; exact ⟨rfl, hb'⟩
        · rw [hj]; simp only [Exit.inBlock, if_true]; exact ⟨trivial, hb'⟩)
    intro bF kF cs hbF hFF hrF
    obtain ⟨e', a2, w4, hq, harr⟩ := hC bF (.inLoop (.seq (.region i1 ops false) (.seq (.cond (.tmp t2) .skip (.exit id)) (.block id2 B))) :: kF) cs hbF hFF hrF
    obtain ⟨rfl, hI2⟩ := hq
    have hless := left_less (ES := ES.toList) (seen := seen) (e := e) (Array.mem_toList_iff.2 hmem) hun
    obtain ⟨e3, a3, w5, hq3, harr3⟩ := ih (seen.push e.born) a2 w4 (by omega) hI2 bF kF cs hbF hFF hrF
    exact ⟨e3, a3, w5, hq3, .of_steps (StepsIn.trans harr (.one (fenced_calm hFF hrF rfl) stepR_inLoop)) harr3⟩
  have main : ∀ (k : Nat) (seen : Array Nat) (a1 : Act) (w1 : World), (ES.toList.filter fun x => !seen.contains x.born).length ≤ k → HvI X n σ GI G frI BI.r M.r ES cl since w seen a1 w1 →
      RunIn (Fw rm) X.P [.code (.seq (.region i1 ops false) (.seq (.cond (.tmp t2) .skip (.exit id)) (.block id2 B))), .inLoop (.seq (.region i1 ops false) (.seq (.cond (.tmp t2) .skip (.exit id)) (.block id2 B)))]
        (EndQ X n σ G w h ⟨.exit id, F3.put (F3.put frI (slot t1) overV) (slot t2) (.bool false), [], hF⟩) a1 w1 := by
    intro k
    induction k with
    | zero =>
      intro seen a1 w1 hk0 hI1
      exact hvStop seen a1 w1 (List.length_eq_zero_iff.1 (Nat.le_zero.1 hk0)) hI1
    | succ k ih =>
      intro seen a1 w1 hk1 hI1
      by_cases hl0 : (ES.toList.filter fun x => !seen.contains x.born) = []
      · exact hvStop seen a1 w1 hl0 hI1
      · exact hvGo k ih seen a1 w1 hk1 hl0 hI1
  exact main _ #[] a w (Nat.le_refl _) start

end Go.Ev
end

section
set_option linter.unusedVariables false
set_option linter.unusedSimpArgs false
namespace Go.Ev

variable {X : Cx} {σ : Sig} {n : Nat} {ro : Option Nat} {fr : Fr} {ds : List Df} {h : H} {a : Act} {w : World}

/-! ### functions, out of code -/
noncomputable def onEnd (j : Jump) (k : Bool) : Bool := Jump.rec (motive := fun _ => Bool) k k (fun _ => false) (fun _ => false) j
theorem onEnd_inv {j : Jump} {k : Bool} (h : onEnd j k = true) : (Jump.exit' j = .normal ∨ Jump.exit' j = .ret) ∧ k = true := by
  cases j with
  | none => exact ⟨.inl rfl, h⟩
  | ret => exact ⟨.inr rfl, h⟩
  | exit id => cases h
  | goto l => cases h
noncomputable def dfK (tb : T MF) (self : Slf) (f : Nat) (l : AV) (h : H) (k : H → Bool) : Bool :=
  T.getK tb f (fun mf => MF.rec (motive := fun _ => Bool)
    (fun n body res => frameK n l fun fr => self body none fr [] h fun j fr ds h => onEnd j (dsNil ds (resultsK res fr h fun _ => k h)))
    (fun n s body res => frameK n l fun fr => F3.setK s fr .nili fun fr => self body none fr [] h fun j fr ds h => onEnd j (dsNil ds (resultsK res fr h fun _ => k h))) mf) false
noncomputable def clD (tb : T MF) (self : Slf) : Cl := ⟨fun _ _ _ _ => false, fun _ _ _ _ => false, dfK tb self⟩
/-- what is known of some calls beforehand: whoever asks goes on at once, or by the code -/
abbrev Px := Nat → AV → H → Kt → Bool → Bool
def PxOK (X : Cx) (px : Px) : Prop := ∀ f l h ks kn, px f l h ks kn = true → (∃ v h', Mv h h' ∧ ks v h' = true ∧ CallD X f l h v h') ∨ kn = true
theorem px_same {f : Nat} {l : AV} {h : H} {ks : Kt} {kn : Bool} (hk : (∃ v, ks v h = true ∧ CallD X f l h v h) ∨ kn = true) : (∃ v h', Mv h h' ∧ ks v h' = true ∧ CallD X f l h v h') ∨ kn = true :=
  hk.imp (fun ⟨v, h1, h2⟩ => ⟨v, h, Mv.refl h, h1, h2⟩) id
noncomputable def noPx : Px := fun _ _ _ _ kn => kn
theorem noPx_ok : PxOK X noPx := fun f l h ks kn hk => .inr hk
noncomputable def callK (tb : T MF) (px : Px) (self : Slf) (f : Nat) (l : AV) (h : H) (k : Kt) : Bool :=
  px f l h k <| T.getK tb f (fun mf => MF.rec (motive := fun _ => Bool)
    (fun n body res => frameK n l fun fr => self body none fr [] h fun j fr ds h => onEnd j (leaveK (clD tb self) res fr ds h k))
    (fun _ _ _ _ => false) mf) false
noncomputable def clK (tb : T MF) (rt : T MRf) (px : Px) (self : Slf) : Cl := ⟨callK tb px self, roundK rt self, dfK tb self⟩

/-- the table of functions -/
def TbOK (X : Cx) (tb : T MF) : Prop := ∀ f mf, tb.get f = some mf → ∃ fn, X.P.funcs[f]? = some fn ∧ fn.name ≠ "runtime.NumGoroutine" ∧ compF X.E X.ng f fn = some mf

theorem compF_mk {f n : Nat} {fn : Func} {body : MC} {res : List MR} (hfn : X.P.funcs[f]? = some fn) (h : compF X.E X.ng f fn = some (.mk n body res)) :
    ∃ c, fn.body = some c ∧ fn.ntmps = n ∧ n ≤ 343 ∧ Rep X n f body [.code c] ∧ cres X.E n fn.results.toList = some res := by
  unfold compF at h
  split at h
  · cases h
  · rename_i c hb
    split at h
    · rename_i h0
      split at h
      · split at h
        · cases h
        · cases h
      · split at h
        · rename_i m r h1 h2
          cases h
          refine ⟨c, hb, rfl, h0.2, .code h1 ?_ ?_, h2⟩
          · have : (lpOf X.P f).map (·.2) = rf1 c := by
              simp only [lpOf, hfn, hb]
              cases rf1 c with
              | none => rfl
              | some q => rfl
            rw [this]
            exact rfAll_one h0.1
          · intro q hq
            simp only [lpOf, hfn, hb] at hq
            split at hq
            · cases hq
            · cases hq; rfl
        · cases h
    · cases h
theorem rec_parts {c c' : Code} {t : Tmp} (h : recHead c = some (t, c')) : rfN c' = rfN c ∧ rf1 c' = rf1 c := by
  obtain ⟨id, o, cl, rfl, _⟩ := recHead_inv h
  exact ⟨by simp [rfN], by simp [rf1]⟩
theorem compF_dk {f n : Nat} {fn : Func} {s : Sl} {body : MC} {res : List MR} (hfn : X.P.funcs[f]? = some fn) (h : compF X.E X.ng f fn = some (.dk n s body res)) :
    ∃ c c' t, fn.body = some c ∧ recHead c = some (t, c') ∧ t < n ∧ s = slot t ∧ fn.ntmps = n ∧ n ≤ 343 ∧ Rep X n f body [.code c'] ∧ cres X.E n fn.results.toList = some res := by
  unfold compF at h
  split at h
  · cases h
  · rename_i c hb
    split at h
    · rename_i h0
      split at h
      · rename_i t c' hr
        split at h
        · rename_i s' m r h1 h2 h3
          cases h
          obtain ⟨q1, q2⟩ := rec_parts hr
          obtain ⟨q3, q4, q5⟩ := sl_inv h1
          refine ⟨c, c', t, hb, hr, q3, q5, rfl, h0.2, .code h2 ?_ ?_, h3⟩
          · have : (lpOf X.P f).map (·.2) = rf1 c' := by
              rw [q2]
              simp only [lpOf, hfn, hb]
              cases rf1 c with
              | none => rfl
              | some q => rfl
            rw [this]
            exact rfAll_one (by rw [q1]; exact h0.1)
          · intro q hq
            simp only [lpOf, hfn, hb] at hq
            split at hq
            · cases hq
            · cases hq; rfl
        · cases h
      · split at h
        · cases h
        · cases h
    · cases h

theorem getT_inv {α : Type} {t : T α} {f : Nat} {k : α → Bool} (hk : T.getK t f k false = true) : ∃ x, t.get f = some x ∧ k x = true := by
  rw [T.getK_eq] at hk
  split at hk
  · exact ⟨_, by assumption, hk⟩
  · cases hk

theorem dfK_inv {tb : T MF} {self : Slf} (htb : TbOK X tb) (hself : SelfOK X self) {f : Nat} {l : AV} {k : H → Bool} (hk : dfK tb self f l h k = true) : ∃ h', Mv h h' ∧ k h' = true ∧ DefD X f l h h' := by
  obtain ⟨mf, hget, hk⟩ := getT_inv hk
  obtain ⟨fn, hfn, hname, hc⟩ := htb f mf hget
  cases mf with
  | mk n body res =>
    obtain ⟨c, hb, hn, hn3, rep, hres⟩ := compF_mk hfn hc
    subst hn
    have hk : frameK fn.ntmps l (fun fr => self body none fr [] h fun j fr ds h => onEnd j (dsNil ds (resultsK res fr h fun _ => k h))) = true := hk
    obtain ⟨fr, hk, hframe⟩ := frameK_inv hn3 hk
    obtain ⟨j, o, e, hk, m, hdo⟩ := hself _ _ _ _ rep _ _ _ _ _ hk
    obtain ⟨he, hk⟩ := onEnd_inv hk
    obtain ⟨hds, hk⟩ := dsNil_inv hk
    obtain ⟨v, hk, hr⟩ := resultsK_inv hres hk
    exact ⟨o.h, m, hk, def_of_body hfn hb hname hframe hdo (by rw [e]; exact he) hds fun σ G w tmps h1 h2 h3 => let ⟨u, h4, _⟩ := hr σ G w tmps h1 h2 h3; ⟨u, h4⟩⟩
  | dk n s body res =>
    obtain ⟨c, c', t, hb, hrec, ht, rfl, hn, hn3, rep, hres⟩ := compF_dk hfn hc
    subst hn
    have hk : frameK fn.ntmps l (fun fr => F3.setK (slot t) fr .nili fun fr => self body none fr [] h fun j fr ds h => onEnd j (dsNil ds (resultsK res fr h fun _ => k h))) = true := hk
    obtain ⟨fr, hk, hframe⟩ := frameK_inv hn3 hk
    rw [F3.setK_eq] at hk
    obtain ⟨j, o, e, hk, m, hdo⟩ := hself _ _ _ _ rep _ _ _ _ _ hk
    obtain ⟨he, hk⟩ := onEnd_inv hk
    obtain ⟨hds, hk⟩ := dsNil_inv hk
    obtain ⟨v, hk, hr⟩ := resultsK_inv hres hk
    exact ⟨o.h, m, hk, def_of_body_rec hfn hb hname hrec ht hn3 hframe hdo (by rw [e]; exact he) hds fun σ G w tmps h1 h2 h3 => let ⟨u, h4, _⟩ := hr σ G w tmps h1 h2 h3; ⟨u, h4⟩⟩
theorem clD_ok {tb : T MF} {self : Slf} (htb : TbOK X tb) (hself : SelfOK X self) : ClOK X (clD tb self) :=
  ⟨fun f l h k hk => dfK_inv htb hself hk, fun f l h k hk => (by cases hk), fun b l h k hk => (by cases hk)⟩
theorem callK_inv {tb : T MF} {px : Px} {self : Slf} (htb : TbOK X tb) (hpx : PxOK X px) (hself : SelfOK X self) {f : Nat} {l : AV} {k : Kt} (hk : callK tb px self f l h k = true) : ∃ v h', Mv h h' ∧ k v h' = true ∧ CallD X f l h v h' := by
  rcases hpx _ _ _ _ _ hk with ⟨v, h', m, hk, hD⟩ | hk
  · exact ⟨v, h', m, hk, hD⟩
  obtain ⟨mf, hget, hk⟩ := getT_inv hk
  obtain ⟨fn, hfn, hname, hc⟩ := htb f mf hget
  cases mf with
  | mk n body res =>
    obtain ⟨c, hb, hn, hn3, rep, hres⟩ := compF_mk hfn hc
    subst hn
    have hk : frameK fn.ntmps l (fun fr => self body none fr [] h fun j fr ds h => onEnd j (leaveK (clD tb self) res fr ds h k)) = true := hk
    obtain ⟨fr, hk, hframe⟩ := frameK_inv hn3 hk
    obtain ⟨j, o, e, hk, m, hdo⟩ := hself _ _ _ _ rep _ _ _ _ _ hk
    obtain ⟨he, hk⟩ := onEnd_inv hk
    obtain ⟨v, h', m2, hk, hleave⟩ := leaveK_inv (clD_ok htb hself) hres hk
    exact ⟨v, h', m.trans m2, hk, call_of_body (cl := clD tb self) hfn hb hname hframe hdo (by rw [e]; exact he) m m2 hleave⟩
  | dk n s body res => cases hk
theorem clK_ok {tb : T MF} {px : Px} {self : Slf} (htb : TbOK X tb) (hpx : PxOK X px) (hself : SelfOK X self) : ClOK X (clK tb X.rt px self) :=
  ⟨fun f l h k hk => dfK_inv htb hself hk, fun f l h k hk => callK_inv htb hpx hself hk, fun b l h k hk => roundK_inv hself hk⟩

/-! ### the evaluator -/
noncomputable def ifB (v : AV) (t e : Bool) : Bool := match v with | .bool b => sel b t e | _ => false
theorem ifB_inv {v : AV} {t e : Bool} (h : ifB v t e = true) : ∃ b, v = .bool b ∧ (if b = true then t else e) = true := by
  unfold ifB at h
  split at h
  · rename_i b
    refine ⟨b, rfl, ?_⟩
    cases b <;> exact h
  · cases h
noncomputable def seqJ (K : Kj) (kb : Fr → List Df → H → Bool) (j : Jump) (fr : Fr) (ds : List Df) (h : H) : Bool :=
  Jump.rec (motive := fun _ => Bool) (kb fr ds h) (K .ret fr ds h) (fun id => K (.exit id) fr ds h) (fun l => K (.goto l) fr ds h) j
noncomputable def blkJ (K : Kj) (id : Nat) (j : Jump) (fr : Fr) (ds : List Df) (h : H) : Bool :=
  Jump.rec (motive := fun _ => Bool) (K .none fr ds h) (K .ret fr ds h) (fun id' => sel (Nat.beq id' id) (K .none fr ds h) (K (.exit id') fr ds h)) (fun l => K (.goto l) fr ds h) j
/-- the code behind a label -/
noncomputable def lblK (m : MC) : Nat → (MC → Bool) → Bool → Bool :=
  MC.rec (motive := fun _ => Nat → (MC → Bool) → Bool → Bool) (fun _ _ kn => kn) (fun _ _ _ kn => kn) (fun _ _ _ kn => kn) (fun _ _ _ kn => kn)
    (fun _ b iha ihb l ks kn => iha l (fun r => ks (.seq r b)) (ihb l ks kn)) (fun _ _ _ _ _ _ _ kn => kn) (fun _ _ _ _ _ kn => kn) (fun _ _ _ _ kn => kn) (fun _ _ _ _ _ _ _ _ _ _ _ _ kn => kn) (fun _ _ _ _ kn => kn) (fun _ _ _ kn => kn) (fun _ _ _ _ kn => kn) (fun _ _ _ _ _ _ kn => kn)
    (fun l' l ks kn => sel (Nat.beq l' l) (ks .skip) kn) (fun _ _ _ kn => kn) (fun _ _ kn => kn) (fun _ _ kn => kn) m
theorem lblK_inv {g : Nat} {p : Option (Array Tmp × Code × Code)} {l : Nat} : ∀ {c : Code} {m : MC} {ks : MC → Bool} {kn : Bool}, compC X.E X.ng n g c = some m → rfAll p c → lblK m l ks kn = true →
    (∃ r m', findLabel c l = some r ∧ compC X.E X.ng n g r = some m' ∧ rfAll p r ∧ ks m' = true) ∨ (findLabel c l = none ∧ kn = true) := by
  intro c
  induction c with
  | skip => intro m ks kn hc _ hk; cases hc; exact .inr ⟨rfl, hk⟩
  | region id ops draw =>
    intro m ks kn hc _ hk
    refine .inr ⟨rfl, ?_⟩
    simp only [compC] at hc
    split at hc
    · cases hc; exact hk
    · split at hc
      · split at hc
        · split at hc
          · cases hc; exact hk
          · cases hc; exact hk
        · cases hc; exact hk
      · split at hc
        · cases hc; exact hk
        · cases hc; exact hk
  | seq a b iha ihb =>
    intro m ks kn hc hrf hk
    simp only [compC] at hc
    split at hc
    · rename_i x y hx hy
      cases hc
      have hk : lblK x l (fun r => ks (.seq r y)) (lblK y l ks kn) = true := hk
      rcases iha hx hrf.1 hk with ⟨r, m', h1, h2, h3, h4⟩ | ⟨h1, h2⟩
      · exact .inl ⟨.seq r b, .seq m' y, by simp [findLabel, h1], by simp [compC, h2, hy], ⟨h3, hrf.2⟩, h4⟩
      · rcases ihb hy hrf.2 h2 with ⟨r, m', h3, h4, h5, h6⟩ | ⟨h3, h4⟩
        · exact .inl ⟨r, m', by simp [findLabel, h1, h3], h4, h5, h6⟩
        · exact .inr ⟨by simp [findLabel, h1, h3], h4⟩
    · cases hc
  | cond c a b _ _ =>
    intro m ks kn hc _ hk
    simp only [compC] at hc
    split at hc
    · cases hc; exact .inr ⟨rfl, hk⟩
    · cases hc
  | block id c _ =>
    intro m ks kn hc _ hk
    simp only [compC] at hc
    split at hc
    · cases hc; exact .inr ⟨rfl, hk⟩
    · cases hc
  | loop c _ =>
    intro m ks kn hc _ hk
    simp only [compC] at hc
    split at hc
    · rename_i x hx
      split at hc
      · rename_i y hy
        cases hc
        obtain ⟨it, t1, t2, t, off, l, id, id2, B, mb, _, _, _, _, _, _, _, rfl⟩ := hvMC_inv hx hy
        exact .inr ⟨rfl, hk⟩
      · cases hc; exact .inr ⟨rfl, hk⟩
    · cases hc
  | rangeFunc f ps a b _ _ =>
    intro m ks kn hc _ hk
    simp only [compC] at hc
    split at hc
    · cases hc; exact .inr ⟨rfl, hk⟩
    · cases hc
  | exit id => intro m ks kn hc _ hk; cases hc; exact .inr ⟨rfl, hk⟩
  | scope c _ =>
    intro m ks kn hc _ hk
    simp only [compC] at hc
    split at hc
    · cases hc; exact .inr ⟨rfl, hk⟩
    · cases hc
  | label l' =>
    intro m ks kn hc _ hk
    cases hc
    rcases sel_eq hk with ⟨h1, hk2⟩ | ⟨h1, hk2⟩
    · rw [beq_true] at h1
      subst h1
      exact .inl ⟨.skip, .skip, by simp [findLabel], rfl, trivial, hk2⟩
    · rw [nbf] at h1
      exact .inr ⟨by simp [findLabel, h1], hk2⟩
  | goto l' => intro m ks kn hc _ hk; cases hc; exact .inr ⟨rfl, hk⟩
  | ret => intro m ks kn hc _ hk; cases hc; exact .inr ⟨rfl, hk⟩
  | refuse r => intro m ks kn hc _ hk; cases hc; exact .inr ⟨rfl, hk⟩
noncomputable def scpJ (self : Slf) (c : MC) (ro : Option Nat) (K : Kj) (j : Jump) (fr : Fr) (ds : List Df) (h : H) : Bool :=
  Jump.rec (motive := fun _ => Bool) (K .none fr ds h) (K .ret fr ds h) (fun id => K (.exit id) fr ds h) (fun l => lblK c l (fun r => self (.inScope r c) ro fr ds h K) (K (.goto l) fr ds h)) j
abbrev Evt := Option Nat → Fr → List Df → H → Kj → Bool
noncomputable def evSkip : Evt := fun _ fr ds h K => K .none fr ds h
noncomputable def evReg (fc : List Fact) (cl : Cl) (ops : List MOper) : Evt := fun _ fr ds h K => regK fc cl ops fr h fun fr h => K .none fr ds h
noncomputable def evDreg (fc : List Fact) (cl : Cl) (ops : List MOper) : Evt := fun ro fr ds h K => dregK fc cl ro ops fr ds h fun fr ds h => K .none fr ds h
noncomputable def evDraw (fc : List Fact) (cl : Cl) (ops : List MDr) : Evt := fun _ fr ds h K => drawK fc cl ops fr h fun fr h => K .none fr ds h
noncomputable def evSeq (_ _ : MC) (iha ihb : Evt) : Evt := fun ro fr ds h K => iha ro fr ds h (seqJ K fun fr ds h => ihb ro fr ds h K)
noncomputable def evCond (c : MO) (_ _ : MC) (iha ihb : Evt) : Evt := fun ro fr ds h K => c.getK fr fun v => ifB v (iha ro fr ds h K) (ihb ro fr ds h K)
noncomputable def evBlock (id : Nat) (_ : MC) (ih : Evt) : Evt := fun ro fr ds h K => ih ro fr ds h (blkJ K id)
noncomputable def evLoop (self : Slf) (c : MC) (ih : Evt) : Evt := fun ro fr ds h K => ih ro fr ds h (seqJ K fun fr ds h => self (.loop c) ro fr ds h K)
noncomputable def evHloop (self : Slf) (si s55 s56 st : Sl) (off : Nat) (hv : List Sl) (id id2 : Nat) (b : MC) (_ : Evt) : Evt := fun ro fr ds h K => hvK self si s55 s56 st off hv id id2 b ro fr ds h K
noncomputable def evRf (cl : Cl) (g : Nat) (f : MO) : Evt := fun ro fr ds h K => rfK cl ro g f fr ds h K
noncomputable def evExit (id : Nat) : Evt := fun _ fr ds h K => K (.exit id) fr ds h
noncomputable def evScope (self : Slf) (c : MC) (ih : Evt) : Evt := fun ro fr ds h K => ih ro fr ds h (scpJ self c ro K)
noncomputable def evIn (self : Slf) (_ c : MC) (ihr _ : Evt) : Evt := fun ro fr ds h K => ihr ro fr ds h (scpJ self c ro K)
noncomputable def evLabel (_ : Nat) : Evt := fun _ fr ds h K => K .none fr ds h
noncomputable def evGoto (l : Nat) : Evt := fun _ fr ds h K => K (.goto l) fr ds h
noncomputable def evRet : Evt := fun _ fr ds h K => K .ret fr ds h
noncomputable def evBad : Evt := fun _ _ _ _ _ => false
noncomputable def evC (fc : List Fact) (cl : Cl) (self : Slf) (m : MC) : Evt :=
  MC.rec (motive := fun _ => Evt) evSkip (evReg fc cl) (evDreg fc cl) (evDraw fc cl) evSeq evCond evBlock (evLoop self) (evHloop self) (evRf cl) evExit (evScope self) (evIn self) evLabel evGoto evRet evBad m
noncomputable def evS (fc : List Fact) (tb : T MF) (rt : T MRf) (px : Px) (self : Slf) : Slf := evC fc (clK tb rt px self) self
noncomputable def ev (fc : List Fact) (tb : T MF) (rt : T MRf) (px : Px) (fuel : Nat) : Slf :=
  Nat.rec (motive := fun _ => Slf) (fun _ _ _ _ _ _ => false) (fun _ ih => evS fc tb rt px ih) fuel

theorem evC_ok {cl : Cl} {self : Slf} (hcl : ClOK X cl) (hself : SelfOK X self) : SelfOK X (evC X.fc cl self) := by
  -- a piece of code
  have code : ∀ (c : Code) (n g : Nat) (m : MC), compC X.E X.ng n g c = some m → rfAll ((lpOf X.P g).map (·.2)) c → (∀ q, lpOf X.P g = some q → q.1 = n) → ∀ ro fr ds h K, evC X.fc cl self m ro fr ds h K = true →
      ∃ j o, o.e = Jump.exit' j ∧ K j o.fr o.ds o.h = true ∧ Mv h o.h ∧ CDoes X n ro [.code c] fr ds h o := by
    intro c
    induction c with
    | skip =>
      intro n g m hc hrf hlp ro fr ds h K hk
      cases hc
      exact ⟨.none, ⟨.normal, fr, ds, h⟩, rfl, hk, Mv.refl h, .skip⟩
    | region id ops draw =>
      intro n g m hc hrf hlp ro fr ds h K hk
      cases draw with
      | true =>
        have hcc := hc
        simp only [compC] at hcc
        split at hcc
        · cases hcc; cases hk
        · simp only [if_true] at hcc
          split at hcc
          · split at hcc
            case h_2 => cases hcc; cases hk
            rename_i l hl
            cases hcc
            obtain ⟨fr', h', hk, mv, hdo⟩ := drawK_does hcl hc hk
            exact ⟨.none, ⟨.normal, fr', ds, h'⟩, rfl, hk, mv, hdo⟩
          · cases hcc; cases hk
      | false =>
        simp only [compC] at hc
        split at hc
        · cases hc; cases hk
        · rename_i ms hms
          simp only [Bool.false_eq_true, if_false] at hc
          split at hc
          · cases hc
            obtain ⟨fr', ds', h', hk, mv, hdo⟩ := dregK_inv hcl (l := ops.toList) (i := 0) rfl hms hk
            refine ⟨.none, ⟨.normal, fr', ds', h'⟩, rfl, hk, mv, CDoes.region ?_⟩
            rw [List.range_eq_range', ← Array.length_toList]; exact hdo
          · cases hc
            obtain ⟨fr', h', hk, mv, hdo⟩ := regK_inv hcl (l := ops.toList) (i := 0) rfl hms hk
            refine ⟨.none, ⟨.normal, fr', ds, h'⟩, rfl, hk, mv, CDoes.region ?_⟩
            rw [List.range_eq_range', ← Array.length_toList]; exact hdo ds
    | seq a b iha ihb =>
      intro n g m hc hrf hlp ro fr ds h K hk
      simp only [compC] at hc
      split at hc
      · rename_i x y hx hy
        cases hc
        obtain ⟨j, o, e, hk, mv, hdo⟩ := iha n g x hx hrf.1 hlp ro fr ds h _ hk
        cases j with
        | none =>
          obtain ⟨j2, o2, e2, hk2, mv2, hdo2⟩ := ihb n g y hy hrf.2 hlp ro _ _ _ _ hk
          exact ⟨j2, o2, e2, hk2, mv.trans mv2, .seq mv mv2 e hdo hdo2⟩
        | ret => exact ⟨.ret, o, e, hk, mv, .seq_stop (by rw [e]; simp [Jump.exit']) hdo⟩
        | exit id => exact ⟨.exit id, o, e, hk, mv, .seq_stop (by rw [e]; simp [Jump.exit']) hdo⟩
        | goto l => exact ⟨.goto l, o, e, hk, mv, .seq_stop (by rw [e]; simp [Jump.exit']) hdo⟩
      · cases hc
    | cond c a b iha ihb =>
      intro n g m hc hrf hlp ro fr ds h K hk
      simp only [compC] at hc
      split at hc
      · rename_i mc x y hm hx hy
        cases hc
        have hk : mc.getK fr (fun v => ifB v (evC X.fc cl self x ro fr ds h K) (evC X.fc cl self y ro fr ds h K)) = true := hk
        rw [MO.getK_eq] at hk
        obtain ⟨q, hv, hk⟩ := ifB_inv hk
        cases q with
        | true =>
          obtain ⟨j, o, e, hk, mv, hdo⟩ := iha n g x hx hrf.1 hlp ro fr ds h _ hk
          exact ⟨j, o, e, hk, mv, .cond hm true hv hdo⟩
        | false =>
          obtain ⟨j, o, e, hk, mv, hdo⟩ := ihb n g y hy hrf.2 hlp ro fr ds h _ hk
          exact ⟨j, o, e, hk, mv, .cond hm false hv hdo⟩
      · cases hc
    | block id c ih =>
      intro n g m hc hrf hlp ro fr ds h K hk
      simp only [compC] at hc
      split at hc
      · rename_i x hx
        cases hc
        obtain ⟨j, o, e, hk, mv, hdo⟩ := ih n g x hx hrf hlp ro fr ds h _ hk
        cases j with
        | none => exact ⟨.none, o, e, hk, mv, .block (by rw [e]; simp [Jump.exit']) hdo⟩
        | ret => exact ⟨.ret, o, e, hk, mv, .block (by rw [e]; simp [Jump.exit']) hdo⟩
        | goto l => exact ⟨.goto l, o, e, hk, mv, .block (by rw [e]; simp [Jump.exit']) hdo⟩
        | exit id' =>
          rcases sel_eq hk with ⟨g1, hk2⟩ | ⟨g1, hk2⟩
          · rw [beq_true] at g1
            subst g1
            exact ⟨.none, ⟨.normal, o.fr, o.ds, o.h⟩, rfl, hk2, mv, .block_out e hdo⟩
          · rw [nbf] at g1
            exact ⟨.exit id', o, e, hk2, mv, .block (by rw [e]; simp [Jump.exit', g1]) hdo⟩
      · cases hc
    | loop c ih =>
      intro n g m hc hrf hlp ro fr ds h K hk
      simp only [compC] at hc
      split at hc
      · rename_i x hx
        split at hc
        · rename_i y hy
          cases hc
          obtain ⟨it, t1, t2, t, off, l, id, id2, B, mb, _, _, _, _, _, _, _, rfl⟩ := hvMC_inv hx hy
          obtain ⟨o, e, hk, mv, hdo⟩ := hvK_does hself hx hy hrf hlp hk
          exact ⟨.exit id, o, e, hk, mv, hdo⟩
        cases hc
        obtain ⟨j, o, e, hk, mv, hdo⟩ := ih n g x hx hrf hlp ro fr ds h _ hk
        cases j with
        | none =>
          obtain ⟨j2, o2, e2, hk2, mv2, hdo2⟩ := hself n g (.loop x) _ (.loop hx hrf hlp) ro _ _ _ _ hk
          exact ⟨j2, o2, e2, hk2, mv.trans mv2, .loop (.round mv mv2 e hdo hdo2)⟩
        | ret => exact ⟨.ret, o, e, hk, mv, .loop (.round_stop (by rw [e]; simp [Jump.exit']) hdo)⟩
        | exit id => exact ⟨.exit id, o, e, hk, mv, .loop (.round_stop (by rw [e]; simp [Jump.exit']) hdo)⟩
        | goto l => exact ⟨.goto l, o, e, hk, mv, .loop (.round_stop (by rw [e]; simp [Jump.exit']) hdo)⟩
      · cases hc
    | rangeFunc f ps a b _ _ =>
      intro n g m hc hrf hlp ro fr ds h K hk
      simp only [compC] at hc
      split at hc
      · rename_i mf hm
        cases hc
        obtain ⟨j, o, e, hk, mv, hdo⟩ := rfK_inv hcl hk
        have hrf : (lpOf X.P g).map (·.2) = some (ps, a, b) := hrf
        refine ⟨j, o, e, hk, mv, hdo n f ps a b hm ?_⟩
        cases hl : lpOf X.P g with
        | none => rw [hl] at hrf; cases hrf
        | some q =>
          rw [hl] at hrf
          simp only [Option.map_some, Option.some.injEq] at hrf
          have := hlp q hl
          obtain ⟨q1, q2⟩ := q
          simp only at hrf this
          rw [hrf, this]
      · cases hc
    | exit id =>
      intro n g m hc hrf hlp ro fr ds h K hk
      cases hc
      exact ⟨.exit id, ⟨.exit id, fr, ds, h⟩, rfl, hk, Mv.refl h, .exit⟩
    | scope c ih =>
      intro n g m hc hrf hlp ro fr ds h K hk
      simp only [compC] at hc
      split at hc
      · rename_i x hx
        cases hc
        obtain ⟨j, o, e, hk, mv, hdo⟩ := ih n g x hx hrf hlp ro fr ds h _ hk
        cases j with
        | none => exact ⟨.none, o, e, hk, mv, .scope (.in_scope (fun l hl => by rw [e] at hl; cases hl) hdo)⟩
        | ret => exact ⟨.ret, o, e, hk, mv, .scope (.in_scope (fun l hl => by rw [e] at hl; cases hl) hdo)⟩
        | exit id => exact ⟨.exit id, o, e, hk, mv, .scope (.in_scope (fun l hl => by rw [e] at hl; cases hl) hdo)⟩
        | goto l =>
          rcases lblK_inv hx hrf hk with ⟨r, m', h1, h2, h3, hk⟩ | ⟨h1, hk⟩
          · obtain ⟨j2, o2, e2, hk2, mv2, hdo2⟩ := hself n g (.inScope m' x) _ (.scope h2 h3 hx hrf hlp) ro _ _ _ _ hk
            exact ⟨j2, o2, e2, hk2, mv.trans mv2, .scope (.jump mv mv2 e h1 hdo hdo2)⟩
          · exact ⟨.goto l, o, e, hk, mv, .scope (.in_scope (fun l' hl => by rw [e] at hl; cases hl; exact h1) hdo)⟩
      · cases hc
    | label l =>
      intro n g m hc hrf hlp ro fr ds h K hk
      cases hc
      exact ⟨.none, ⟨.normal, fr, ds, h⟩, rfl, hk, Mv.refl h, .label⟩
    | goto l =>
      intro n g m hc hrf hlp ro fr ds h K hk
      cases hc
      exact ⟨.goto l, ⟨.goto l, fr, ds, h⟩, rfl, hk, Mv.refl h, .goto⟩
    | ret =>
      intro n g m hc hrf hlp ro fr ds h K hk
      cases hc
      exact ⟨.ret, ⟨.ret, fr, ds, h⟩, rfl, hk, Mv.refl h, .ret⟩
    | refuse r =>
      intro n g m hc hrf hlp ro fr ds h K hk
      cases hc
      cases hk
  intro n g m is hrep ro fr ds h K hk
  cases hrep with
  | code hc hrf hlp => exact code _ n g m hc hrf hlp ro fr ds h K hk
  | @loop c mb hc hrf hlp =>
    obtain ⟨j, o, e, hk, mv, hdo⟩ := code c n g mb hc hrf hlp ro fr ds h _ hk
    cases j with
    | none =>
      obtain ⟨j2, o2, e2, hk2, mv2, hdo2⟩ := hself n g (.loop mb) _ (.loop hc hrf hlp) ro _ _ _ _ hk
      exact ⟨j2, o2, e2, hk2, mv.trans mv2, .round mv mv2 e hdo hdo2⟩
    | ret => exact ⟨.ret, o, e, hk, mv, .round_stop (by rw [e]; simp [Jump.exit']) hdo⟩
    | exit id => exact ⟨.exit id, o, e, hk, mv, .round_stop (by rw [e]; simp [Jump.exit']) hdo⟩
    | goto l => exact ⟨.goto l, o, e, hk, mv, .round_stop (by rw [e]; simp [Jump.exit']) hdo⟩
  | @scope r c m' mb hr hrr hc hrf hlp =>
    obtain ⟨j, o, e, hk, mv, hdo⟩ := code r n g m' hr hrr hlp ro fr ds h _ hk
    cases j with
    | none => exact ⟨.none, o, e, hk, mv, .in_scope (fun l hl => by rw [e] at hl; cases hl) hdo⟩
    | ret => exact ⟨.ret, o, e, hk, mv, .in_scope (fun l hl => by rw [e] at hl; cases hl) hdo⟩
    | exit id => exact ⟨.exit id, o, e, hk, mv, .in_scope (fun l hl => by rw [e] at hl; cases hl) hdo⟩
    | goto l =>
      rcases lblK_inv hc hrf hk with ⟨r', m'', h1, h2, h3, hk⟩ | ⟨h1, hk⟩
      · obtain ⟨j2, o2, e2, hk2, mv2, hdo2⟩ := hself n g (.inScope m'' mb) _ (.scope h2 h3 hc hrf hlp) ro _ _ _ _ hk
        exact ⟨j2, o2, e2, hk2, mv.trans mv2, .jump mv mv2 e h1 hdo hdo2⟩
      · exact ⟨.goto l, o, e, hk, mv, .in_scope (fun l' hl => by rw [e] at hl; cases hl; exact h1) hdo⟩
theorem ev_ok {tb : T MF} {px : Px} (htb : TbOK X tb) (hpx : PxOK X px) : ∀ fuel, SelfOK X (ev X.fc tb X.rt px fuel)
  | 0 => fun n g m is _ ro fr ds h K hk => by cases hk
  | fuel + 1 => evC_ok (clK_ok htb hpx (ev_ok htb hpx fuel)) (ev_ok htb hpx fuel)

/-- a function's call, reckoned -/
noncomputable def run (fc : List Fact) (tb : T MF) (rt : T MRf) (px : Px) (fuel f : Nat) (l : AV) (h : H) (k : Kt) : Bool := callK tb px (ev fc tb rt px fuel) f l h k
theorem run_ok {tb : T MF} {px : Px} (htb : TbOK X tb) (hpx : PxOK X px) {fuel f : Nat} {l : AV} {k : Kt} (hk : run X.fc tb X.rt px fuel f l h k = true) : ∃ v h', Mv h h' ∧ k v h' = true ∧ CallD X f l h v h' :=
  callK_inv htb hpx (ev_ok htb hpx fuel) hk

end Go.Ev
end

section
set_option linter.unusedVariables false
set_option linter.unusedSimpArgs false
namespace Go.Ev

variable {X : Cx} {σ : Sig} {n : Nat} {fr : Fr} {h : H} {a : Act} {w : World}

/-! ### a text in a text -/
/-- does a text begin with another one? t: it does; f: surely not; u: a pair of bytes is in doubt -/
noncomputable def preK (t f : Bool) (p : List Nat) : List Nat → Bool → Bool :=
  List.rec (motive := fun _ => List Nat → Bool → Bool) (fun _ u => sel u false t)
    (fun x _ ih s u => List.rec (motive := fun _ => Bool) f (fun y s _ => sel (Nat.beq x y) (ih s u) (sel (ne1 x y) f (ih s true))) s) p
noncomputable def idxK (t s : List Nat) : Nat → (Nat → Bool) → Bool → Bool :=
  List.rec (motive := fun _ => Nat → (Nat → Bool) → Bool → Bool) (fun i kf kn => preK (kf i) kn t [] false) (fun b s ih i kf kn => preK (kf i) (fN (Nat.succ i) fun i => ih i kf kn) t (b :: s) false) s
/-- 'begins' of two texts, whatever the digits are -/
def PreIs (p s : List Nat) (b : Bool) : Prop := ∀ (z : Sy) (p' s' : List UInt8), p'.map UInt8.toNat = p.map z.bv → s'.map UInt8.toNat = s.map z.bv → p'.isPrefixOf s' = b
theorem preK_inv {t f : Bool} : ∀ {p s : List Nat} {u : Bool}, preK t f p s u = true → (t = true ∧ u = false ∧ PreIs p s true) ∨ (f = true ∧ PreIs p s false)
  | [], s, u, h => by
    have h : sel u false t = true := h
    rcases sel_eq h with ⟨_, h⟩ | ⟨hu, h⟩
    · cases h
    · refine .inl ⟨h, hu, fun z p' s' hp hs => ?_⟩
      simp only [List.map_nil, List.map_eq_nil_iff] at hp
      subst hp; rfl
  | x :: p, [], u, h => .inr ⟨h, fun z p' s' hp hs => by
      simp only [List.map_nil, List.map_eq_nil_iff] at hs
      subst hs
      cases p' with
      | nil => cases hp
      | cons a p' => rfl⟩
  | x :: p, y :: s, u, h => by
    have h : sel (Nat.beq x y) (preK t f p s u) (sel (ne1 x y) f (preK t f p s true)) = true := h
    have heads : ∀ {r : Bool}, (∀ (z : Sy) (a b : UInt8) (l' m' : List UInt8), a.toNat = z.bv x → b.toNat = z.bv y → l'.map UInt8.toNat = p.map z.bv → m'.map UInt8.toNat = s.map z.bv → (a :: l').isPrefixOf (b :: m') = r) → PreIs (x :: p) (y :: s) r := by
      intro r hr z l' m' hl hm
      cases l' with
      | nil => cases hl
      | cons a l' =>
        cases m' with
        | nil => cases hm
        | cons b m' =>
          simp only [List.map_cons, List.cons.injEq] at hl hm
          exact hr z a b l' m' hl.1 hm.1 hl.2 hm.2
    have rest : PreIs p s false → PreIs (x :: p) (y :: s) false := fun hr => heads fun z a b l' m' _ _ hl hm => by
      rw [List.isPrefixOf, hr z l' m' hl hm, Bool.and_false]
    rcases sel_eq h with ⟨h1, h9⟩ | ⟨_, h⟩
    · rw [Nat.beq_eq] at h1
      subst h1
      rcases preK_inv h9 with ⟨h1, h2, h3⟩ | ⟨h1, h2⟩
      · refine .inl ⟨h1, h2, heads fun z a b l' m' ha hb hl hm => ?_⟩
        have hab : a = b := UInt8.toNat_inj.1 (ha.trans hb.symm)
        subst hab
        rw [List.isPrefixOf, h3 z l' m' hl hm]; simp
      · exact .inr ⟨h1, rest h2⟩
    · rcases sel_eq h with ⟨h1, h⟩ | ⟨_, h⟩
      · refine .inr ⟨h, heads fun z a b l' m' ha hb hl hm => ?_⟩
        have hne : (a == b) = false := by
          rw [beq_eq_false_iff_ne]
          intro e; subst e
          exact ne1_ne h1 z (ha.symm.trans hb)
        rw [List.isPrefixOf, hne, Bool.false_and]
      · rcases preK_inv h with ⟨_, h2, _⟩ | ⟨h1, h2⟩
        · cases h2
        · exact .inr ⟨h1, rest h2⟩
/-- where a text begins in another one, whatever the digits are -/
def IdxIs (t s : List Nat) (r : Int) : Prop := ∀ (z : Sy) (t' s' : List UInt8), t'.map UInt8.toNat = t.map z.bv → s'.map UInt8.toNat = s.map z.bv → Lib.index s' t' = r
theorem idxK_inv {t : List Nat} {kf : Nat → Bool} {kn : Bool} : ∀ {s : List Nat} {i : Nat}, idxK t s i kf kn = true →
    (∃ j : Nat, kf (i + j) = true ∧ IdxIs t s (j : Int)) ∨ (kn = true ∧ IdxIs t s (-1))
  | [], i, h => by
    have h : preK (kf i) kn t [] false = true := h
    rcases preK_inv h with ⟨h1, _, h2⟩ | ⟨h1, h2⟩
    · refine .inl ⟨0, h1, fun z t' s' ht hs => ?_⟩
      have := h2 z t' s' ht hs
      simp only [List.map_nil, List.map_eq_nil_iff] at hs
      subst hs
      cases t' with
      | nil => rfl
      | cons x t' => cases this
    · refine .inr ⟨h1, fun z t' s' ht hs => ?_⟩
      have := h2 z t' s' ht hs
      simp only [List.map_nil, List.map_eq_nil_iff] at hs
      subst hs
      cases t' with
      | nil => cases this
      | cons x t' => rfl
  | b :: s, i, h => by
    have h : preK (kf i) (fN (Nat.succ i) fun i => idxK t s i kf kn) t (b :: s) false = true := h
    rw [fN_eq] at h
    have cons : ∀ {r : Int}, (∀ (z : Sy) (t' : List UInt8) (a : UInt8) (s' : List UInt8), t'.map UInt8.toNat = t.map z.bv → (a :: s').map UInt8.toNat = (b :: s).map z.bv → s'.map UInt8.toNat = s.map z.bv → Lib.index (a :: s') t' = r) → IdxIs t (b :: s) r := by
      intro r hr z t' s' ht hs
      cases s' with
      | nil => cases hs
      | cons a s' =>
        have h2 := hs
        simp only [List.map_cons, List.cons.injEq] at h2
        exact hr z t' a s' ht hs h2.2
    rcases preK_inv h with ⟨h1, _, h2⟩ | ⟨h, h1⟩
    · refine .inl ⟨0, h1, cons fun z t' a s' ht hs _ => ?_⟩
      unfold Lib.index; simp [h2 z t' (a :: s') ht hs]
    · rcases idxK_inv (s := s) (i := i + 1) h with ⟨j, h2, h3⟩ | ⟨h2, h3⟩
      · refine .inl ⟨j + 1, by rw [show i + (j + 1) = i + 1 + j by omega]; exact h2, cons fun z t' a s' ht hs hs2 => ?_⟩
        have hn : ¬ ((((j : Nat) : Int) == -1) = true) := by rw [beq_iff_eq]; omega
        unfold Lib.index
        simp only [h1 z t' (a :: s') ht hs, Bool.false_eq_true, if_false, h3 z t' s' ht hs2, if_neg hn]
        rfl
      · refine .inr ⟨h2, cons fun z t' a s' ht hs hs2 => ?_⟩
        unfold Lib.index
        simp [h1 z t' (a :: s') ht hs, h3 z t' s' ht hs2]

/-- strings.Index, known beforehand: its number is f0, MaxLen is variable g0 -/
noncomputable def isI64 (fc : List Fact) (v : AV) (k : Bool) : Bool := match v with | .int .i64 _ => k | .sym i => fcK (.cvi .i64) (.s i) (.s i) (fun u => match u with | .sym j => chk (Nat.beq j i) k | _ => false) fc | _ => false
theorem isI64_inv {v : AV} {k : Bool} (h : isI64 X.fc v k = true) : k = true ∧ ∀ {σ : Sig} {u : Value}, Sane X σ → V σ v u → ∃ m, u = .int .i64 m := by
  unfold isI64 at h
  split at h
  · exact ⟨h, fun _ hv => ⟨_, hv.int_inv⟩⟩
  · rename_i i
    obtain ⟨e, hK, he, hf⟩ := fact_at h
    split at hK
    · rename_i j hj
      obtain ⟨h1, hK2⟩ := chk_eq hK
      have h1 := Nat.eq_of_beq_eq_true h1
      subst h1
      refine ⟨hK2, fun {σ u} hs hv => ?_⟩
      obtain ⟨q, z, q', z', e1, _, h2, h3, h4⟩ := hf hs hv hv
      have h4 := h4 q z q' z' h2 h3
      rw [he] at h4
      have h4 : V σ e.v (.int .i64 (IntKind.i64.wrap z)) := h4
      rw [hj] at h4
      have h5 : Value.int .i64 (IntKind.i64.wrap z) = σ.sym.val j := h4
      have h6 : u = σ.sym.val j := hv
      exact ⟨_, h6.trans h5.symm⟩
    · cases hK
  · cases h
noncomputable def ixStr (fc : List Fact) (g0 : Nat) (l : AV) (h : H) (ks : AV → Bool) (kn : Bool) : Bool := match l with
  | .cons (.str s) (.cons (.str t) .nil) => lenK s 0 fun m => chk (Nat.blt m 4294967281) (getB h g0 fun bl => onCells bl.c fun cs _ _ _ _ => AV.nthK 0 cs fun v => isI64 fc v (idxK t s 0 (fun i => ks (.int .i64 (.ofNat i))) (ks (.int .i64 (.negSucc 0)))))
  | _ => kn
def IxC (X : Cx) (f0 g0 : Nat) : Prop := ∀ (s t : ByteArray) (m : Int) (w : World), s.size < 4294967281 → w.cell? ⟨g0, 0, none⟩ = some (.int .i64 m) →
  Calls X.P f0 #[.string s, .string t] w fun e w' => e = .returned (.int .i64 (Lib.index s.data.toList t.data.toList)) ∧ w' = w
def Enters (X : Cx) (f0 : Nat) : Prop := ∀ args w, (callFunc f0 args).run X.P w = .ok (.enter f0 args) w
theorem ixStr_inv {f0 g0 : Nat} (hc : IxC X f0 g0) (hent : Enters X f0) (hg : g0 < X.ng) {l : AV} {ks : AV → Bool} {kn : Bool} (hk : ixStr X.fc g0 l h ks kn = true) : (∃ v, ks v = true ∧ CallD X f0 l h v h) ∨ kn = true := by
  unfold ixStr at hk
  split at hk
  · rename_i s t
    rw [lenK_eq] at hk
    obtain ⟨hlen, hk⟩ := chk_eq hk
    have hlen := blt_inv hlen
    obtain ⟨bl, hb, hk⟩ := getB_inv hk
    obtain ⟨cs, el, fz, p, z, hcc, hk⟩ := onCells_inv hk
    obtain ⟨v, hv, hk⟩ := AV.nthK_inv hk
    obtain ⟨hk, hI⟩ := isI64_inv hk
    · left
      have main : ∀ (r : AV) (z : Int), ks r = true → r = .int .i64 z → IdxIs t s z → ∃ v, ks v = true ∧ CallD X f0 (.cons (.str s) (.cons (.str t) .nil)) h v h := by
        intro r z hr hV hz
        refine ⟨r, hr, fun σ G w vs hv' ho hext hfr => ?_⟩
        obtain ⟨u, us, e1, g1, g2⟩ := hv'.cons_inv
        obtain ⟨u2, us2, e2, g3, g4⟩ := g2.cons_inv
        obtain ⟨a, rfl, ha⟩ := g1.str_inv
        obtain ⟨b, rfl, hb'⟩ := g3.str_inv
        have evs : vs = #[.string a, .string b] := by
          apply Array.toList_inj.1
          rw [e1, e2, g4.nil_inv]
        subst evs
        refine ⟨hent _ _, callsIn_wide.2 ?_⟩
        have hm : ∃ m', w.cell? ⟨g0, 0, none⟩ = some (.int .i64 m') := by
          obtain ⟨B, hB, hrel⟩ := ho.rel g0 bl (hext g0 bl hb)
          rw [hcc] at hrel
          obtain ⟨u, q1, q2⟩ := rel_cell hrel hv
          obtain ⟨B', hB', hr', ho'⟩ := ho.sane.glob g0 hg
          rw [hB] at hB'; cases hB'
          rw [hr', ho'] at q1
          obtain ⟨m, rfl⟩ := hI ho.sane q2
          exact ⟨m, q1⟩
        obtain ⟨m', hm'⟩ := hm
        have hsz : a.size < 4294967281 := by rw [len_of ha]; omega
        have hidx := hz σ.sym b.data.toList a.data.toList hb' ha
        refine (hc a b m' w hsz hm').mono fun e w' he => ?_
        obtain ⟨rfl, rfl⟩ := he
        exact ⟨σ, by rw [hV, hidx]; rfl, by rw [app_self]; exact Post.refl ho _⟩
      rcases idxK_inv hk with ⟨j, h1, h2⟩ | ⟨h1, h2⟩
      · exact main _ (j : Int) h1 (by rw [Nat.zero_add]; rfl) h2
      · exact main _ (-1) h1 rfl h2
  · exact .inr hk

end Go.Ev
end

section
set_option linter.unusedVariables false
set_option linter.unusedSimpArgs false
namespace Go.Ev

/-! ### tables, row by row -/
def T.AllP {α : Type} (Q : Nat → α → Prop) : Nat → Nat → T α → Prop
  | _, _, .e => True
  | c, s, .n l v r => (∀ x, v = some x → Q c x) ∧ T.AllP Q (c + s) (2 * s) l ∧ T.AllP Q (c + 2 * s) (2 * s) r
theorem T.AllP.e {α : Type} {Q : Nat → α → Prop} {c s : Nat} : T.AllP Q c s .e := trivial
theorem T.AllP.n {α : Type} {Q : Nat → α → Prop} {c s : Nat} {l r : T α} {v : Option α} (hv : ∀ x, v = some x → Q c x) (hl : T.AllP Q (c + s) (2 * s) l) (hr : T.AllP Q (c + 2 * s) (2 * s) r) : T.AllP Q c s (.n l v r) := ⟨hv, hl, hr⟩
theorem vsome {α : Type} {Q : Nat → α → Prop} {c : Nat} {x : α} (h : Q c x) : ∀ y, some x = some y → Q c y := fun y e => by cases e; exact h
theorem vnone {α : Type} {Q : Nat → α → Prop} {c : Nat} : ∀ y, (none : Option α) = some y → Q c y := fun y e => by cases e
theorem T.AllP.get {α : Type} {Q : Nat → α → Prop} : ∀ {t : T α} {c s k : Nat} {x : α}, T.AllP Q c s t → t.get k = some x → Q (c + s * k) x := by
  intro t
  induction t with
  | e => intro c s k x _ h; cases h
  | n l v r ihl ihr =>
    intro c s k x h hk
    obtain ⟨h1, h2, h3⟩ := h
    simp only [T.get] at hk
    split at hk
    · rename_i e; subst e; exact h1 x hk
    · split at hk
      · have := ihl h2 hk
        have e : c + s + 2 * s * ((k - 1) / 2) = c + s * k := by
          have h2 : k = 2 * ((k - 1) / 2) + 1 := by omega
          generalize (k - 1) / 2 = q at h2 ⊢
          subst h2
          rw [Nat.mul_add, Nat.mul_one, ← Nat.mul_assoc, Nat.mul_comm s 2]; omega
        rw [e] at this; exact this
      · have := ihr h3 hk
        have e : c + 2 * s + 2 * s * ((k - 1) / 2) = c + s * k := by
          have h2 : k = 2 * ((k - 1) / 2) + 2 := by omega
          generalize (k - 1) / 2 = q at h2 ⊢
          subst h2
          rw [Nat.mul_add, ← Nat.mul_assoc, Nat.mul_comm s 2]; omega
        rw [e] at this; exact this
theorem T.AllP.root {α : Type} {Q : Nat → α → Prop} {t : T α} {k : Nat} {x : α} (h : T.AllP Q 0 1 t) (hk : t.get k = some x) : Q k x := by
  have := h.get hk
  rwa [Nat.zero_add, Nat.one_mul] at this

/-! ### what is known of a program -/
def fkOf (P : Program) (ix cn ne : Nat) (f : Nat) : Option (Option Xt) :=
  if f = ix then some (some .indexByte) else if f = cn then some (some .count) else if f = ne then some (some .noEscape) else
  match P.funcs[f]? with
  | some fn => if fn.body.isSome then some none else none
  | none => none
def envOf (P : Program) (ix cn ne mzf : Nat) (mz : TypeId) (mt : String → List (Nat × Nat × Nat)) (lies : TypeId → List (Nat × Nat × Nat)) (hv : Nat → Option (Tmp × Nat × List Tmp)) : Env :=
  { lies := lies, hv := hv, ty := fun t => P.info? t, fk := fkOf P ix cn ne, ns := fun t => !P.stoodInHeld t, mt := mt, mz := mz, mzf := fun f => Nat.beq f mzf }
def XtOK (P : Program) (f : Nat) (x : Xt) : Prop := ∃ fn e, P.funcs[f]? = some fn ∧ (fn.name == "runtime.NumGoroutine") = false ∧ fn.body.isNone = true ∧ Extern.findNext fn = none ∧ Extern.find fn = some e ∧ xtSem x = some e
def noNum (P : Program) : Bool := P.funcs.toList.all fun fn => fn.body.isNone || !(fn.name == "runtime.NumGoroutine")
theorem noNum_name {P : Program} (h : noNum P = true) {f : Nat} {fn : Func} (hf : P.funcs[f]? = some fn) (hb : fn.body.isSome = true) : fn.name ≠ "runtime.NumGoroutine" := by
  unfold noNum at h
  rw [List.all_eq_true] at h
  have := h fn (Array.mem_toList_iff.2 (Array.mem_of_getElem? hf))
  cases hbb : fn.body with
  | none => rw [hbb] at hb; cases hb
  | some c =>
    rw [hbb] at this
    simpa using this
theorem envOf_ok {P : Program} {ix cn ne mzf : Nat} {mz : TypeId} {mt : String → List (Nat × Nat × Nat)} {lies : TypeId → List (Nat × Nat × Nat)} {hv : Nat → Option (Tmp × Nat × List Tmp)} (hmix : P.follows .mixedOrders = true) (hno : noNum P = true) (h1 : XtOK P ix .indexByte) (h2 : XtOK P cn .count) (h3 : XtOK P ne .noEscape)
    (h4 : ∃ fn, P.funcs[mzf]? = some fn ∧ (fn.name == "runtime.NumGoroutine") = false ∧ fn.body.isNone = true ∧ Extern.findNext fn = none ∧ Extern.find fn = some (Extern.BytealgMakeNoZero.makeNoZero fn.params #[mz]))
    (hmt : ∀ name t f q, (t, f, q) ∈ mt name → MethOK P t name f q) (hlies : ∀ u el o s, (el, o, s) ∈ lies u → liesAt P P.depth el 1 o u 1 = true ∧ P.cellsOf el = s ∧ 0 < s) : EnvOK P (envOf P ix cn ne mzf mz mt lies hv) where
  lies := hlies
  mt := hmt
  mix := hmix
  ty := fun t i h => h
  ns := fun t h => by simpa [envOf] using h
  mzok := fun f h => by
    have e : f = mzf := by simpa [envOf] using h
    subst e; exact h4
  fb := fun f h => by
    simp only [envOf, fkOf] at h
    split at h
    · cases h
    · split at h
      · cases h
      · split at h
        · cases h
        · split at h
          · rename_i fn hf
            split at h
            · rename_i hb
              exact ⟨fn, hf, hb, noNum_name hno hf hb⟩
            · cases h
          · cases h
  fx := fun f x h => by
    simp only [envOf, fkOf] at h
    split at h
    · rename_i e; subst e; cases h; exact h1
    · split at h
      · rename_i e; subst e; cases h; exact h2
      · split at h
        · rename_i e; subst e; cases h; exact h3
        · split at h
          · split at h <;> cases h
          · cases h
/-- a function's row in the table -/
def Good (P : Program) (E : Env) (ng : Nat) (f : Nat) (mf : MF) : Prop := ∃ fn, P.funcs[f]? = some fn ∧ compF E ng f fn = some mf
theorem tbOK_of {X : Cx} {tb : T MF} (hno : noNum X.P = true) (h : T.AllP (Good X.P X.E X.ng) 0 1 tb) : TbOK X tb := by
  intro f mf hf
  obtain ⟨fn, h1, h2⟩ := h.root hf
  refine ⟨fn, h1, noNum_name hno h1 ?_, h2⟩
  unfold compF at h2
  split at h2
  · cases h2
  · rename_i c hb; rw [hb]; rfl
def GoodR (P : Program) (E : Env) (ng : Nat) (g : Nat) (r : MRf) : Prop := compR E P ng g = some r

/-! ### a call that only new blocks come of -/
/-- a memory in which nothing may be written -/
def AllRo (h : H) : Prop := ∀ b x, h.get b = some x → x.ro = true
theorem RelC.back {X : Cx} {σ τ : Sig} {N : Nat} {w : World} {B : Bk} {cs : AV} {el fz : Nat} {p z : Bool} (hle : σ.le τ) (hb : ∀ b, b < N → τ.bk b = σ.bk b) (hc : bndV N cs = true) (h : RelC X τ w B (.cells cs el fz p z)) : RelC X σ w B (.cells cs el fz p z) := by
  obtain ⟨C, f, h2, h3, ⟨vs, h4, h5⟩, h6⟩ := h
  exact ⟨C, f, h2, h3, ⟨vs, (R.back hle hb cs hc).2 vs h4, h5⟩, h6⟩
theorem CallD.quiet {X : Cx} {f : Nat} {l v : AV} {h0 h1 : H} (hc : CallD X f l h0 v h1) (hro : AllRo h0) (hcells : ∀ b x, h0.get b = some x → b < h0.next ∧ ∃ cs el fz p z, x.c = .cells cs el fz p z ∧ bndV h0.next cs = true) (hng : X.ng ≤ h0.next) (hfc : X.fc = []) (hl : bndV h0.next l = true)
    (hv : ∀ {σ τ : Sig} {x : Value}, V σ v x → V τ v x) {h : H} (hext : ∀ b x, h0.get b = some x → h.get b = some x) : CallD X f l h v h := by
  intro σ G w vs hvs ho he hfr
  -- the places of the old blocks alone
  let σ0 : Sig := ⟨fun b => if b < h0.next then σ.bk b else none, σ.sym⟩
  have hle0 : ∀ b x, σ0.bk b = some x → σ.bk b = some x := by
    intro b x hx
    have hx : (if b < h0.next then σ.bk b else none) = some x := hx
    split at hx
    · exact hx
    · cases hx
  have hle : σ0.le σ := ⟨hle0, rfl⟩
  have hbk : ∀ b, b < h0.next → σ.bk b = σ0.bk b := fun b hb => (if_pos hb).symm
  have ok0 : Ok X σ0 h0.get w := by
    refine ⟨fun c x hx => ?_, fun c c' C C' x x' hne hx hx' hC hC' => ?_, ⟨fun g hg => ?_, fun e he => ?_, fun g hg B hB => ?_⟩⟩
    · obtain ⟨hlt, cs, el, fz, p, z, e, hbnd⟩ := hcells c x hx
      obtain ⟨B, hB, hr⟩ := ho.rel c x (he c x (hext c x hx))
      rw [e] at hr ⊢
      exact ⟨B, by rw [← hbk c hlt]; exact hB, hr.back hle hbk hbnd⟩
    · exact ho.sep c c' C C' x x' hne (he c x (hext c x hx)) (he c' x' (hext c' x' hx')) (hle.1 _ _ hC) (hle.1 _ _ hC')
    · obtain ⟨B, h1, h2⟩ := ho.sane.glob g hg
      exact ⟨B, by rw [← hbk g (Nat.lt_of_lt_of_le hg hng)]; exact h1, h2⟩
    · rw [hfc] at he; cases he
    · exact ho.sane.gsz g hg B (hle0 _ _ hB)
  obtain ⟨c1, c2⟩ := hc σ0 h0.get w vs ((R.back hle hbk l hl).2 _ hvs) ok0 (Ext.refl _) fun b hb _ => if_neg (by omega)
  refine ⟨c1, CallsIn.mono c2 fun e w' he' => ?_⟩
  cases e with
  | panicked c => exact he'.elim
  | outgrown => exact he'.elim
  | returned x =>
    obtain ⟨τ, hV, hp⟩ := he'
    have hno : ∀ r, ¬ Owned σ0 h0.get r := by
      rintro r ⟨b, x, B, hx, hxr, _⟩
      rw [hro b x hx] at hxr; cases hxr
    have hkeep : ∀ r, r < w.heap.size → w'.heap[r]? = w.heap[r]? := fun r hr => hp.frame r hr (hno r)
    refine ⟨σ, hv hV, ?_⟩
    rw [app_self]
    refine ⟨.refl _, fun _ _ => rfl, ⟨fun c x hx => ?_, ho.sep, ho.sane⟩, hp.os, hp.tape, hp.output, hp.size, fun r hr _ => hkeep r hr, fun r h => .inl h⟩
    obtain ⟨B, hB, hr⟩ := ho.rel c x hx
    exact ⟨B, hB, hr.turn (hkeep _ hr.lt)⟩

/-! ### a row of plain numbers, looked at by the kernel -/
noncomputable def sameRow (a : AV) : AV → Bool := eqA a
/-- are these blocks there, as they were? -/
noncomputable def hasB (h : H) (b : Nat) (cs : AV) (el : Nat) (k : Bool) : Bool := T.getK h.t b (fun bl => match bl with | ⟨0, true, .cells cs' el' fz false true⟩ => sel (Nat.beq fz 4096) (sel (Nat.beq el' el) (sel (eqA cs cs') k false) false) false | _ => false) false
theorem hasB_inv {h : H} {b : Nat} {cs : AV} {el : Nat} {k : Bool} (hk : hasB h b cs el k = true) : h.get b = some ⟨0, true, .cells cs el 4096 false true⟩ ∧ k = true := by
  unfold hasB at hk
  rw [T.getK_eq] at hk
  unfold H.get
  split at hk
  · rename_i x hx
    split at hk
    · rename_i cs' el' fz
      obtain ⟨h0, hk⟩ := sel_and hk
      obtain ⟨h1, hk⟩ := sel_and hk
      obtain ⟨h2, hk⟩ := sel_and hk
      rw [hx, eqA_eq h2, Nat.eq_of_beq_eq_true h1, Nat.eq_of_beq_eq_true h0]
      exact ⟨rfl, hk⟩
    · cases hk
  · cases hk

end Go.Ev
end
