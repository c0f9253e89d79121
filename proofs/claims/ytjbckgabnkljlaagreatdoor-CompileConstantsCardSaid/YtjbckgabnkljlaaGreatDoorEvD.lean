/- Operations of the evaluator, third part. -/
import Derived.Test.YtjbckgabnkljlaaGreatDoorEvC
import Derived.Lib.Bytealg
import Derived.Laws.RangeString
import Derived.Lib.Builder
import Derived.Lib.UnsafeStr
import Derived.Lib.MakeNoZero

section
set_option linter.unusedVariables false
set_option linter.unusedSimpArgs false
namespace Go.Ev

variable {X : Cx} {σ : Sig} {n : Nat} {fr : Fr} {a : Act} {w : World} {L : Tmp → Prop}

noncomputable def fitL0 (a : AV) : Bool := match a with | .nil => true | _ => false
noncomputable def fitL1 (b : Bool) (ih : AV → Bool) (a : AV) : Bool := match a with | .cons (.int _ _) l => chk (!b) (ih l) | .cons (.str _) l => chk b (ih l) | _ => false
noncomputable def fitL (pt : List Bool) : AV → Bool := List.rec (motive := fun _ => AV → Bool) fitL0 (fun b _ ih => fitL1 b ih) pt
def isStrD (E : Env) (f : Go.Field) : Bool := match E.und f.type with | some .string => true | _ => false
theorem isStrD_iff {E : Env} {f : Go.Field} : isStrD E f = true ↔ E.und f.type = some .string := by
  unfold isStrD
  split
  · simp [*]
  · rename_i h
    exact ⟨fun q => (by cases q), fun e => absurd e h⟩
noncomputable def fitK (kd : EK) (pt : List Bool) (key : AV) : Bool := match kd with
  | .i => (match key with | .int _ _ => true | _ => false)
  | .s => (match key with | .str _ => true | _ => false)
  | .z => (match key with | .agg l => fitL pt l | _ => false)
  | _ => false
theorem fitL_inv {E : Env} : ∀ {fs : List Go.Field} {l : AV}, fitL (fs.map (isStrD E)) l = true → rowFits E fs l
  | [], l, h => by
    change fitL0 l = true at h
    unfold fitL0 at h
    split at h
    · trivial
    · cases h
  | f :: fs, l, h => by
    change fitL1 (isStrD E f) (fitL (fs.map (isStrD E))) l = true at h
    unfold fitL1 at h
    split at h
    · obtain ⟨h1, h2⟩ := chk_eq h
      refine ⟨⟨fun e => ?_, fun ⟨s, hs⟩ => by cases hs⟩, fitL_inv h2⟩
      rw [isStrD_iff.2 e] at h1; cases h1
    · obtain ⟨h1, h2⟩ := chk_eq h
      exact ⟨⟨fun _ => ⟨_, rfl⟩, fun _ => isStrD_iff.1 h1⟩, fitL_inv h2⟩
    · cases h
theorem fitK_inv {kd : EK} {t : TypeId} {d : TypeDesc} {key : AV} (hd : X.E.und t = some d) (hK : KeyD X.E kd d) (h : fitK kd (cpt X.E t) key = true) : keyFits X.E kd d key := by
  unfold fitK at h
  cases kd with
  | i =>
    simp only at h
    split at h
    · exact ⟨_, _, rfl⟩
    · cases h
  | s =>
    simp only at h
    split at h
    · exact ⟨_, rfl⟩
    · cases h
  | z =>
    simp only at h
    obtain ⟨fs, rfl, hok⟩ := (hK : ∃ fs : Array Go.Field, d = .struct fs ∧ okFields X.E 0 fs.toList = true)
    split at h
    · refine ⟨fs, _, rfl, rfl, ?_⟩
      unfold cpt at h
      rw [hd] at h
      exact fitL_inv h
    · cases h
  | _ => cases h

noncomputable def lookOut (ok found : Bool) (v : AV) (h : H) (k : Kt) : Bool := sel ok (k (.tup (.cons v (.cons (.bool found) .nil))) h) (k v h)
theorem lookOut_inv {ok found : Bool} {v : AV} {h : H} {k : Kt} (hk : lookOut ok found v h k = true) : ∃ r, k r h = true ∧ ∀ (σ : Sig) (u : Value), V σ v u → V σ r (if ok then .tuple #[u, .bool found] else u) := by
  cases ok
  · exact ⟨v, hk, fun σ u h => h⟩
  · exact ⟨_, hk, fun σ u h => ⟨_, rfl, VL.cons h (VL.cons rfl VL.nil)⟩⟩
noncomputable def opLook (z : AV) (ok : Bool) (kd : EK) (pt : List Bool) (x i : MO) (fr : Fr) (h : H) (k : Kt) : Bool := x.getK fr fun a => i.getK fr fun c => chk (fitK kd pt c) (match a with
  | .nilm => lookOut ok false z h k
  | .map b => getB h b fun bl => onMap bl.c fun es _ => findK kd c es (fun v => lookOut ok true v h k) (lookOut ok false z h k)
  | _ => false)
theorem opLook_saysF {o : Oper} {t kt e : TypeId} {i : TypeInfo} {zv : Value} {z : AV} {ok : Bool} {kd : EK} {x ix : Operand} {m mi : MO} {h : H} {k : Kt} (ho : o.op = .lookup t x ix ok) (ht : X.E.und t = some (.map kt e)) (hi : X.E.ty e = some i) (hz : i.zero = some zv) (hcv : cv zv = some z) (hkd : ckey X.E kt = some kd)
    (hm : mo X.ng n x = some m) (hmi : mo X.ng n ix = some mi) (hk : opLook z ok kd (cpt X.E kt) m mi fr h k = true) : SaysF X n fr o h k (bkOf (m.val fr)) false := by
  obtain ⟨d, hd, hK, hns⟩ := ckey_inv hkd
  have hns : kd = .z → X.P.stoodInHeld kt = false := fun e => X.ok.ns _ (hns e)
  have hkz : kd = .i ∨ kd = .s ∨ (kd = .z ∧ ∃ fs, d = .struct fs) := by
    cases kd with
    | i => exact .inl rfl
    | s => exact .inr (.inl rfl)
    | z => obtain ⟨fs, h1, _⟩ := hK; exact .inr (.inr ⟨rfl, fs, h1⟩)
    | _ => exact (hK : False).elim
  unfold opLook at hk
  simp only [MO.getK_eq] at hk
  obtain ⟨hfit, hk⟩ := chk_eq hk
  have hfit := fitK_inv hd hK hfit
  have lx : ∀ t, x = .tmp t → Lop o t := lop (by rw [ho]; simp [Op.operands])
  have li : ∀ t, ix = .tmp t → Lop o t := lop (by rw [ho]; simp [Op.operands])
  have hkey : ∀ (σ : Sig) (u : Value) (em : Bool) (w : World), V σ (mi.val fr) u → (Instr.checkKey em 10000 kt u).run X.P w = .ok () w := fun σ u em w hu => run_checkKey hd hK hfit hu em 9998 w
  split at hk
  · rename_i hs
    obtain ⟨r, hk, hr⟩ := lookOut_inv hk
    refine SaysF.pure ⟨r, hk, pureV (s := fun a => Instr.lookup t (a.eval x) (a.eval ix) ok) (fun a => by simp only [execOp, ho]) fun σ a w hf => ⟨_, ?_, hr σ zv (cv_V hcv)⟩⟩
    have hv := mo_V hm hf lx
    have hvi := mo_V hmi hf li
    rw [hs] at hv
    have hv : a.eval x = .map none := hv
    have hfind : (Instr.findKey kt (a.eval ix) []).run X.P w = .ok none w := run_findKey hd (.nil 0) hkz w
    simp only [Instr.lookup, Sem.run_bind, run_und ht, Result.andThen_ok, hv, Sem.run_pure, hkey σ _ _ w hvi, hfind, run_zero hi hz]
  · rename_i b hs
    obtain ⟨bl, hb, hk⟩ := getB_inv hk
    obtain ⟨es, cl, hc, hk⟩ := onMap_inv hk
    have base : ∀ (σ : Sig) (a : Act) (w : World) (B : Bk), Fit X σ n fr a (Lop o) → σ.bk b = some B → RelC X σ w B bl.c → ∃ ES : Array MapEntry, a.eval x = .map (some B.r) ∧ (getObj B.r).run X.P w = .ok (.map ES cl) w ∧ EL σ es ES.toList := by
      intro σ a w B hf hB hr
      have hv := mo_V hm hf lx
      rw [hs] at hv
      obtain ⟨B', hB', hvv⟩ := (hv : ∃ x, _)
      rw [hB] at hB'; cases hB'
      rw [hc] at hr
      obtain ⟨ES, h1, h2⟩ := hr
      exact ⟨ES, hvv, by simp [getObj, Sem.run, h1], h2⟩
    rcases findK_inv (R := AlikeV X kt d kd) (fun {σ k r u v} h1 h2 h3 => alike_of hd hK hns hfit h1 h2 h3) hk with ⟨v, hk, hfind⟩ | ⟨hk, hfind⟩
    · obtain ⟨r, hk, hr⟩ := lookOut_inv hk
      refine SaysF.read (by rw [hs]; exact List.mem_cons_self) hb hk fun σ a w B hf hB hrel => ?_
      obtain ⟨ES, h1, h2, h3⟩ := base σ a w B hf hB hrel
      have hvi := mo_V hmi hf li
      obtain ⟨j, y, h4, h5⟩ := hfind σ ES.toList _ 0 h3 hvi
      refine ⟨_, ?_, hr σ y h5⟩
      simp only [execOp, ho]
      refine run_exec_value ?_
      simp only [Instr.lookup, Sem.run_bind, run_und ht, Result.andThen_ok, h1, h2, Sem.run_pure, hkey σ _ _ w hvi, run_findKey hd h4 hkz w]
    · obtain ⟨r, hk, hr⟩ := lookOut_inv hk
      refine SaysF.read (by rw [hs]; exact List.mem_cons_self) hb hk fun σ a w B hf hB hrel => ?_
      obtain ⟨ES, h1, h2, h3⟩ := base σ a w B hf hB hrel
      have hvi := mo_V hmi hf li
      have h4 := hfind σ ES.toList _ 0 h3 hvi
      refine ⟨_, ?_, hr σ zv (cv_V hcv)⟩
      simp only [execOp, ho]
      refine run_exec_value ?_
      simp only [Instr.lookup, Sem.run_bind, run_und ht, Result.andThen_ok, h1, h2, Sem.run_pure, hkey σ _ _ w hvi, run_findKey hd h4 hkz w, run_zero hi hz]
  · cases hk

/-! ### a map's update -/
noncomputable def updK (kd : EK) (key val : AV) (clk : Nat) (es : Ents) (k : Ents → Bool → Bool) : Bool :=
  Ents.rec (motive := fun _ => (Ents → Bool → Bool) → Bool) (fun k => k (.cons key val clk .nil) false) (fun k0 v0 b0 rest ih k => Option.rec (motive := fun _ => Bool) false (fun r => sel r (k (.cons key val b0 rest) true) (ih fun l f => k (.cons k0 v0 b0 l) f)) (keyE kd key k0)) es k
theorem updK_inv {kd : EK} {key val : AV} {clk : Nat} {R : Value → Value → Bool → Prop} (hR : ∀ {σ : Sig} {k : AV} {r : Bool} {u v : Value}, keyE kd key k = some r → V σ key u → V σ k v → R u v r) : ∀ {es : Ents} {k : Ents → Bool → Bool}, updK kd key val clk es k = true →
    (∃ es', k es' true = true ∧ ∀ (σ : Sig) (ES : List MapEntry) (u v : Value) (i : Nat), EL σ es ES → V σ key u → V σ val v →
      ∃ j x e, Finds R u ES i (some (i + j, x)) ∧ ES[j]? = some e ∧ R u e.key true ∧ EL σ es' (ES.modify j fun e => { e with key := u, val := v })) ∨
    (∃ es', k es' false = true ∧ ∀ (σ : Sig) (ES : List MapEntry) (u v : Value) (i : Nat), EL σ es ES → V σ key u → V σ val v → Finds R u ES i none ∧ EL σ es' (ES ++ [{ key := u, val := v, born := clk }]))
  | .nil, k, h => .inr ⟨_, h, fun σ ES u v i he hu hv => by
      cases (he : ES = [])
      exact ⟨.nil i, _, _, rfl, hu, hv, rfl, rfl⟩⟩
  | .cons k0 v0 b0 rest, k, h => by
    change Option.rec (motive := fun _ => Bool) false (fun r => sel r (k (.cons key val b0 rest) true) (updK kd key val clk rest fun l f => k (.cons k0 v0 b0 l) f)) (keyE kd key k0) = true at h
    cases hk : keyE kd key k0 with
    | none => rw [hk] at h; cases h
    | some r =>
      rw [hk] at h
      rcases sel_eq h with ⟨h1, h⟩ | ⟨h1, h⟩
      · refine .inl ⟨_, h, fun σ ES u v i he hu hv => ?_⟩
        obtain ⟨e, us, rfl, g1, g2, g3, g4⟩ := he
        have hr := h1 ▸ hR hk hu g1
        exact ⟨0, e.val, e, .hit e us i hr, rfl, hr, _, us, rfl, hu, hv, g3, g4⟩
      · rcases updK_inv hR (es := rest) h with ⟨es', h2, h3⟩ | ⟨es', h2, h3⟩
        · refine .inl ⟨_, h2, fun σ ES u v i he hu hv => ?_⟩
          obtain ⟨e, us, rfl, g1, g2, g3, g4⟩ := he
          obtain ⟨j, x, e1, q1, q2, q3, q4⟩ := h3 σ us u v (i + 1) g4 hu hv
          refine ⟨j + 1, x, e1, .miss e us i _ (h1 ▸ hR hk hu g1) (by rw [show i + (j + 1) = i + 1 + j by omega]; exact q1), by simpa using q2, q3, e, _, by simp [List.modify_succ_cons], g1, g2, g3, q4⟩
        · refine .inr ⟨_, h2, fun σ ES u v i he hu hv => ?_⟩
          obtain ⟨e, us, rfl, g1, g2, g3, g4⟩ := he
          obtain ⟨q1, q2⟩ := h3 σ us u v (i + 1) g4 hu hv
          exact ⟨.miss e us i _ (h1 ▸ hR hk hu g1) q1, e, _, rfl, g1, g2, g3, q2⟩

noncomputable def onMapV (a : AV) (k : Nat → Bool) : Bool := match a with | .map b => k b | _ => false
theorem onMapV_inv {a : AV} {k : Nat → Bool} (h : onMapV a k = true) : ∃ b, a = .map b ∧ k b = true := by
  unfold onMapV at h
  split at h
  · exact ⟨_, rfl, h⟩
  · cases h
noncomputable def opMup (kd : EK) (pt : List Bool) (m key v : MO) (fr : Fr) (h : H) (k : Kt) : Bool := m.getK fr fun a => key.getK fr fun c => v.getK fr fun v => chk (fitK kd pt c) (onMapV a fun b => getB h b fun bl => chk (!bl.ro) (onMap bl.c fun es cl =>
  updK kd c v cl es fun es' f => sel f (putB h b (.map es' cl) fun h => k .top h) (fN (Nat.succ cl) fun cl' => putB h b (.map es' cl') fun h => k .top h)))
theorem setObj_only {r : Nat} {o o' : Obj} (h : w.heap[r]? = some o) (hc : ∀ c e f, o ≠ .cells c e f) : ∃ w', (setObj r o').run X.P w = .ok () w' ∧ w'.heap[r]? = some o' ∧ Only r w w' := by
  have hlt := (Array.getElem?_eq_some_iff.1 h).1
  refine ⟨{ w with heap := w.heap.setIfInBounds r o' }, ?_, ?_, ⟨by simp, fun q hq => by simp [Array.getElem?_setIfInBounds_ne (Ne.symm hq)], rfl, rfl, rfl⟩⟩
  · cases o <;> first | exact absurd rfl (hc _ _ _) | simp only [setObj, Sem.run, h]
  · simp [hlt]
theorem opMup_says {o : Oper} {t kt e : TypeId} {kd : EK} {m key v : Operand} {mm mk mv : MO} {h : H} {k : Kt} (ho : o.op = .mapUpdate t m key v ∨ o.op = .insert t m key v) (ht : X.E.und t = some (.map kt e)) (hkd : ckey X.E kt = some kd)
    (hm : mo X.ng n m = some mm) (hmk : mo X.ng n key = some mk) (hmv : mo X.ng n v = some mv) (hk : opMup kd (cpt X.E kt) mm mk mv fr h k = true) : Says X n fr o h k := by
  obtain ⟨d, hd, hK, hns⟩ := ckey_inv hkd
  have hns : kd = .z → X.P.stoodInHeld kt = false := fun e => X.ok.ns _ (hns e)
  have hkz : kd = .i ∨ kd = .s ∨ (kd = .z ∧ ∃ fs, d = .struct fs) := by
    cases kd with
    | i => exact .inl rfl
    | s => exact .inr (.inl rfl)
    | z => obtain ⟨fs, h1, _⟩ := hK; exact .inr (.inr ⟨rfl, fs, h1⟩)
    | _ => exact (hK : False).elim
  have lm : ∀ t, m = .tmp t → Lop o t := lop (by rcases ho with ho | ho <;> (rw [ho]; simp [Op.operands]))
  have lk : ∀ t, key = .tmp t → Lop o t := lop (by rcases ho with ho | ho <;> (rw [ho]; simp [Op.operands]))
  have lv : ∀ t, v = .tmp t → Lop o t := lop (by rcases ho with ho | ho <;> (rw [ho]; simp [Op.operands]))
  have hex : ∀ a : Act, execOp a.eval o = (do Instr.mapUpdate t (a.eval m) (a.eval key) (a.eval v); pure .skip) := fun a => by rcases ho with ho | ho <;> simp only [execOp, ho]
  unfold opMup at hk
  simp only [MO.getK_eq] at hk
  obtain ⟨hfit, hk⟩ := chk_eq hk
  have hfit := fitK_inv hd hK hfit
  obtain ⟨b, hs, hk⟩ := onMapV_inv hk
  obtain ⟨bl, hb, hk⟩ := getB_inv hk
  obtain ⟨hro, hk⟩ := chk_eq hk
  obtain ⟨es, cl, hc, hk⟩ := onMap_inv hk
  have hkey : ∀ (σ : Sig) (u : Value) (em : Bool) (w : World), V σ (mk.val fr) u → (Instr.checkKey em 10000 kt u).run X.P w = .ok () w := fun σ u em w hu => run_checkKey hd hK hfit hu em 9998 w
  have base : ∀ (σ : Sig) (a : Act) (w : World) (B : Bk), Fit X σ n fr a (Lop o) → σ.bk b = some B → RelC X σ w B bl.c → ∃ ES : Array MapEntry, a.eval m = .map (some B.r) ∧ w.heap[B.r]? = some (.map ES cl) ∧ EL σ es ES.toList := by
    intro σ a w B hf hB hr
    have hv := mo_V hm hf lm
    rw [hs] at hv
    obtain ⟨B', hB', hvv⟩ := (hv : ∃ x, _)
    rw [hB] at hB'; cases hB'
    rw [hc] at hr
    obtain ⟨ES, h1, h2⟩ := hr
    exact ⟨ES, hvv, h1, h2⟩
  rcases updK_inv (R := AlikeV X kt d kd) (fun {σ k r u v} h1 h2 h3 => alike_of hd hK hns hfit h1 h2 h3) hk with ⟨es', hk, hupd⟩ | ⟨es', hk, hupd⟩
  · rw [sel_true] at hk
    refine Says.write (x := bl) (dOne_sub hb) (by simp [dOne]) (by simpa using hro) hk fun σ G a w B hf hok he hB hr => ?_
    obtain ⟨ES, h1, h2, h3⟩ := base σ a w B hf hB hr
    have hvk := mo_V hmk hf lk
    have hvv := mo_V hmv hf lv
    obtain ⟨j, x, e0, q1, q2, q3, q4⟩ := hupd σ ES.toList _ _ 0 h3 hvk hvv
    rw [Nat.zero_add] at q1
    obtain ⟨w', r1, r2, r3⟩ := setObj_only (X := X) (o' := .map (ES.modify j fun e => { e with key := a.eval key, val := a.eval v }) cl) h2 (by simp)
    refine ⟨undef, .skip, w', ?_, .inr ⟨rfl, rfl⟩, trivial, ⟨_, r2, by rw [Array.toList_modify]; exact q4⟩, r3⟩
    have hbits : Instr.sameBits 10000 e0.key (a.eval key) = true := by
      rcases hkz with rfl | rfl | ⟨rfl, _⟩
      · exact q3.2 rfl 9999
      · exact q3.2 rfl 9999
      · exact q3.2.2 rfl 9999
    have hES : (ES[j]?).map (·.key) = some e0.key := by
      rw [Array.getElem?_toList] at q2
      rw [q2]; rfl
    rw [hex]
    simp only [Instr.mapUpdate, Sem.run_bind, run_und ht, Result.andThen_ok, h1, getObj, Sem.run, h2, hkey σ _ _ w hvk, run_findKey hd q1 hkz w, hES, Option.getD_some, Instr.keyThatStays, hbits, if_true, Sem.run_pure, r1]
  · rw [sel_false, fN_eq] at hk
    refine Says.write (x := bl) (dOne_sub hb) (by simp [dOne]) (by simpa using hro) hk fun σ G a w B hf hok he hB hr => ?_
    obtain ⟨ES, h1, h2, h3⟩ := base σ a w B hf hB hr
    have hvk := mo_V hmk hf lk
    have hvv := mo_V hmv hf lv
    obtain ⟨q1, q2⟩ := hupd σ ES.toList _ _ 0 h3 hvk hvv
    obtain ⟨w', r1, r2, r3⟩ := setObj_only (X := X) (o' := .map (ES.push { key := a.eval key, val := a.eval v, born := cl }) (cl + 1)) h2 (by simp)
    refine ⟨undef, .skip, w', ?_, .inr ⟨rfl, rfl⟩, trivial, ⟨_, r2, by rw [Array.toList_push]; exact q2⟩, r3⟩
    rw [hex]
    simp only [Instr.mapUpdate, Sem.run_bind, run_und ht, Result.andThen_ok, h1, getObj, Sem.run, h2, hkey σ _ _ w hvk, run_findKey hd q1 hkz w, Sem.run_pure, r1]

end Go.Ev
end

section
set_option linter.unusedVariables false
set_option linter.unusedSimpArgs false
namespace Go.Ev

variable {X : Cx} {σ : Sig} {n : Nat} {fr : Fr} {a : Act} {w : World} {L : Tmp → Prop}

/-! ### iterators -/
noncomputable def opRng (x : MO) (str : Bool) (fr : Fr) (h : H) (k : Kt) : Bool := x.getK fr fun a => sel str
  (match a with | .str s => newB h (.sit s 0) fun b h => k (.ptr b 0) h | _ => false)
  (match a with | .nilm => newB h .nit fun b h => k (.ptr b 0) h | .map m => getB h m fun bl => onMap bl.c fun _ cl => newB h (.mit m cl [] cl) fun b h => k (.ptr b 0) h | _ => false)
theorem opRng_str {o : Oper} {t : TypeId} {x : Operand} {m : MO} {h : H} {k : Kt} (ho : o.op = .range t x) (ht : X.E.und t = some .string) (hm : mo X.ng n x = some m) (hk : opRng m true fr h k = true) : Says X n fr o h k := by
  unfold opRng at hk
  rw [MO.getK_eq, sel_true] at hk
  split at hk
  · rename_i s hs
    refine Says.alloc (v := fun b => .ptr b 0) hk fun σ G a w hf hok hn => ?_
    have hv := mo_V hm hf (lop (by rw [ho]; simp [Op.operands]))
    rw [hs] at hv
    obtain ⟨t', ht', hn'⟩ := hv.str_inv
    refine ⟨.pointer (some ⟨w.heap.size, 0, none⟩), _, w, .stringIter t' 0, 0, rfl, rfl, rfl, rfl, ?_, .inl rfl, fun τ _ hle hbk => ⟨⟨_, hbk, rfl⟩, fun w' hw' => ⟨rfl, t', by rw [hle.2]; exact hn', hw'⟩⟩⟩
    simp only [execOp, ho]
    refine run_exec_value ?_
    rw [ht']
    exact run_range_string w t t' (X.ok.und ht)
  · cases hk
theorem opRng_map {o : Oper} {t kt e : TypeId} {x : Operand} {m : MO} {h : H} {k : Kt} (ho : o.op = .range t x) (ht : X.E.und t = some (.map kt e)) (hm : mo X.ng n x = some m) (hk : opRng m false fr h k = true) : Says X n fr o h k := by
  unfold opRng at hk
  rw [MO.getK_eq, sel_false] at hk
  have lx : ∀ t, x = .tmp t → Lop o t := lop (by rw [ho]; simp [Op.operands])
  split at hk
  · rename_i hs
    refine Says.alloc (v := fun b => .ptr b 0) hk fun σ G a w hf hok hn => ?_
    have hv := mo_V hm hf lx
    rw [hs] at hv
    have hv : a.eval x = .map none := hv
    refine ⟨.pointer (some ⟨w.heap.size, 0, none⟩), _, w, .mapIter none 0 #[] 0, 0, rfl, rfl, rfl, rfl, ?_, .inl rfl, fun τ _ _ hbk => ⟨⟨_, hbk, rfl⟩, fun w' hw' => ⟨rfl, hw'⟩⟩⟩
    simp only [execOp, ho]
    refine run_exec_value ?_
    simp only [Instr.range, Sem.run_bind, run_und ht, Result.andThen_ok, hv, Sem.run_pure, run_newObj_alloc]
  · rename_i mb hs
    obtain ⟨bl, hb, hk⟩ := getB_inv hk
    obtain ⟨es, cl, hc, hk⟩ := onMap_inv hk
    refine Says.allocD (v := fun b => .ptr b 0) (rst h [mb]) rst_sub hk fun σ G a w hf hok hext hn => ?_
    have hv := mo_V hm hf lx
    rw [hs] at hv
    obtain ⟨B, hB, hvv⟩ := (hv : ∃ x, _)
    obtain ⟨B', hB', hr⟩ := hok.rel mb bl (rst_ext hext hb (by simp))
    rw [hB] at hB'; cases hB'
    rw [hc] at hr
    obtain ⟨ES, h1, h2⟩ := hr
    refine ⟨.pointer (some ⟨w.heap.size, 0, none⟩), _, w, .mapIter (some B.r) cl #[] cl, 0, rfl, rfl, rfl, rfl, ?_, .inl rfl, fun τ _ hle hbk => ⟨⟨_, hbk, rfl⟩, fun w' hw' => ⟨rfl, B, hle.1 _ _ hB, hw'⟩⟩⟩
    simp only [execOp, ho]
    refine run_exec_value ?_
    simp only [Instr.range, Sem.run_bind, run_und ht, Result.andThen_ok, hvv, Sem.run_pure, getObj, Sem.run, h1, run_newObj_alloc]
  · cases hk

noncomputable def memK (l : List Nat) (b : Nat) : Bool := List.rec (motive := fun _ => Bool) false (fun x _ ih => sel (Nat.beq x b) true ih) l
theorem memK_eq : ∀ (l : List Nat) (b : Nat), memK l b = l.contains b
  | [], b => rfl
  | x :: l, b => by
    show sel (Nat.beq x b) true (memK l b) = _
    rw [memK_eq l b, List.contains_cons]
    by_cases h : x = b
    · subst h; rw [show Nat.beq x x = true from Nat.beq_refl x]; simp
    · rw [nbf.2 h, sel_false]
      have : (b == x) = false := by simp; exact fun e => h e.symm
      rw [this, Bool.false_or]
noncomputable def leftE (seen : List Nat) (es : Ents) : Ents := Ents.rec (motive := fun _ => Ents) .nil (fun k v b _ ih => Bool.rec (motive := fun _ => Ents) (.cons k v b ih) ih (memK seen b)) es
theorem leftE_EL {seen : List Nat} : ∀ {es : Ents} {ES : List MapEntry}, EL σ es ES → EL σ (leftE seen es) (ES.filter fun e => !seen.contains e.born)
  | .nil, ES, h => by cases (h : ES = []); rfl
  | .cons k v b l, ES, h => by
    obtain ⟨e, us, rfl, g1, g2, g3, g4⟩ := h
    show EL σ (Bool.rec (motive := fun _ => Ents) (.cons k v b (leftE seen l)) (leftE seen l) (memK seen b)) _
    rw [memK_eq, List.filter_cons, g3]
    cases seen.contains b
    · exact ⟨e, _, rfl, g1, g2, g3, leftE_EL g4⟩
    · exact leftE_EL g4
noncomputable def anyLt (es : Ents) (l : Nat) : Bool := Ents.rec (motive := fun _ => Bool) false (fun _ _ b _ ih => sel (Nat.blt b l) true ih) es
theorem anyLt_EL {last : Nat} : ∀ {es : Ents} {ES : List MapEntry}, EL σ es ES → anyLt es last = true → (ES.all fun e => decide (e.born ≥ last)) = false
  | .nil, ES, _, h => by cases h
  | .cons k v b l, ES, h, hl => by
    obtain ⟨e, us, rfl, g1, g2, g3, g4⟩ := h
    change sel (Nat.blt b last) true (anyLt l last) = true at hl
    rw [List.all_cons]
    rcases sel_eq hl with ⟨h1, _⟩ | ⟨_, h1⟩
    · rw [blt_eq, decide_eq_true_eq] at h1
      have : ¬ (e.born ≥ last) := by omega
      simp [this]
    · rw [anyLt_EL g4 h1, Bool.and_false]
/-- is an iterator's check quiet? -/
noncomputable def quietK (seen : List Nat) (es : Ents) (last : Nat) : Bool := List.rec (motive := fun _ => Bool) true (fun _ _ _ => Ents.rec (motive := fun _ => Bool) true (fun _ _ _ _ _ => anyLt es last) es) seen
theorem quiet_EL {seen : List Nat} {es : Ents} {last : Nat} {ES : List MapEntry} (h : EL σ es ES) (hq : quietK seen es last = true) : (!seen.toArray.isEmpty && !ES.toArray.isEmpty && ES.toArray.all (fun e => decide (e.born ≥ last))) = false := by
  cases seen with
  | nil => simp
  | cons x seen =>
    cases es with
    | nil => cases (h : ES = []); simp
    | cons k v b l =>
      have := anyLt_EL h hq
      simp only [List.all_toArray, this, Bool.and_false]
noncomputable def snocK (l : List Nat) (b : Nat) (k : List Nat → Bool) : Bool := List.rec (motive := fun _ => (List Nat → Bool) → Bool) (fun k => k [b]) (fun x _ ih k => ih fun r => k (x :: r)) l k
theorem snocK_eq (b : Nat) : ∀ (l : List Nat) (k : List Nat → Bool), snocK l b k = k (l ++ [b])
  | [], k => rfl
  | x :: l, k => snocK_eq b l _

noncomputable def overV : AV := .tup (.cons (.bool false) .nil)
theorem overV_V : V σ overV (.tuple #[.bool false]) := ⟨_, rfl, VL.cons rfl VL.nil⟩
noncomputable def nxtS (fc : List Fact) (b : Nat) (ro : Bool) (c : Blk) (h : H) (k : Kt) : Bool := match c with
  | .sit s pos => lenK s 0 fun m => sel (Nat.blt pos m) (chk (!ro) (snthK pos s fun c => sel (Nat.blt c 128)
      (fN (Nat.succ pos) fun pos' => putB h b (.sit s pos') fun h => k (.tup (.cons (.bool true) (.cons (.int .i64 (.ofNat pos)) (.cons (.int .i32 (.ofNat c)) .nil)))) h)
      (chk (Nat.ble 256 c) (fcK (.cvi .i32) (.s c) (.s c) (fun v => fN (Nat.succ pos) fun pos' => putB h b (.sit s pos') fun h => k (.tup (.cons (.bool true) (.cons (.int .i64 (.ofNat pos)) (.cons v .nil)))) h) fc)))) (k overV h)
  | _ => false
noncomputable def nxtM (b : Nat) (ro : Bool) (c : Blk) (h : H) (k : Kt) : Bool := match c with
  | .nit => k overV h
  | .mit m since seen last => getB h m fun bl => onMap bl.c fun es cl => chk (quietK seen es last) (match leftE seen es with
    | .nil => k overV h
    | .cons key v born .nil => chk (!ro) (chk (Nat.blt born since) (snocK seen born fun seen' => putB h b (.mit m since seen' cl) fun h => k (.tup (.cons (.bool true) (.cons key (.cons v .nil)))) h))
    | _ => false)
  | _ => false
noncomputable def onPtr0 (a : AV) (k : Nat → Bool) : Bool := match a with | .ptr b 0 => k b | _ => false
theorem onPtr0_inv {a : AV} {k : Nat → Bool} (h : onPtr0 a k = true) : ∃ b, a = .ptr b 0 ∧ k b = true := by
  unfold onPtr0 at h
  split at h
  · exact ⟨_, rfl, h⟩
  · cases h
noncomputable def opNxt (fc : List Fact) (it : MO) (str : Bool) (fr : Fr) (h : H) (k : Kt) : Bool := it.getK fr fun a => onPtr0 a fun b => getB h b fun bl => sel str (nxtS fc b bl.ro bl.c h k) (nxtM b bl.ro bl.c h k)

theorem opNxt_str {o : Oper} {it : Operand} {m : MO} {h : H} {k : Kt} (ho : o.op = .next it true) (hm : mo X.ng n it = some m) (hk : opNxt X.fc m true fr h k = true) : Says X n fr o h k := by
  unfold opNxt at hk
  rw [MO.getK_eq] at hk
  obtain ⟨b, hs, hk⟩ := onPtr0_inv hk
  obtain ⟨bl, hb, hk⟩ := getB_inv hk
  rw [sel_true] at hk
  have lx : ∀ t, it = .tmp t → Lop o t := lop (by rw [ho]; simp [Op.operands])
  unfold nxtS at hk
  split at hk
  · rename_i s pos hc
    rw [lenK_eq, Nat.zero_add] at hk
    have base : ∀ (σ : Sig) (a : Act) (w : World) (B : Bk), Fit X σ n fr a (Lop o) → σ.bk b = some B → RelC X σ w B bl.c → ∃ t : ByteArray, a.eval it = .pointer (some ⟨B.r, 0, none⟩) ∧ w.heap[B.r]? = some (.stringIter t pos) ∧ nums t = s.map σ.sym.bv ∧ B.o = 0 := by
      intro σ a w B hf hB hr
      have hv := mo_V hm hf lx
      rw [hs] at hv
      obtain ⟨B', hB', hvv⟩ := hv.ptr_inv
      rw [hB] at hB'; cases hB'
      rw [hc] at hr
      obtain ⟨h0, t, h1, h2⟩ := hr
      exact ⟨t, by rw [hvv, h0], h2, h1, h0⟩
    rcases sel_eq hk with ⟨g, hk⟩ | ⟨g, hk⟩
    · rw [blt_eq, decide_eq_true_eq] at g
      obtain ⟨hro, hk⟩ := chk_eq hk
      obtain ⟨c, hc1, hk⟩ := snthK_inv hk
      have main : ∀ v : AV, (∀ σ : Sig, Sane X σ → σ.sym.bv c < 128 ∧ V σ v (.int .i32 (σ.sym.bv c : Nat))) →
          (fN (Nat.succ pos) fun pos' => putB h b (.sit s pos') fun h => k (.tup (.cons (.bool true) (.cons (.int .i64 (.ofNat pos)) (.cons v .nil)))) h) = true → Says X n fr o h k := by
        intro v hv hk
        rw [fN_eq] at hk
        refine Says.write (x := bl) (dOne_sub hb) (by simp [dOne]) (by simpa using hro) hk fun σ G a w B hf hok he hB hr => ?_
        obtain ⟨t, h1, h2, h3, h4⟩ := base σ a w B hf hB hr
        obtain ⟨h128, hvv⟩ := hv σ hf.sane
        obtain ⟨w', r1, r2, r3⟩ := setObj_only (X := X) (o' := .stringIter t (pos + 1)) h2 (by simp)
        have hlt : pos < t.size := by rw [len_of h3]; exact g
        have hcc : (t[pos]'hlt).toNat = σ.sym.bv c := by
          have hc1' : (nums t)[pos]? = some (σ.sym.bv c) := by rw [h3, List.getElem?_map, hc1]; rfl
          simp only [nums, List.getElem?_map, Option.map_eq_some_iff] at hc1'
          obtain ⟨b', e1, e2⟩ := hc1'
          rw [Array.getElem?_toList] at e1
          obtain ⟨e3, e4⟩ := Array.getElem?_eq_some_iff.1 e1
          rw [← e2, ← e4]; rfl
        refine ⟨_, _, w', ?_, .inl rfl, ⟨#[.bool true, .int .i64 (pos : Int), .int .i32 (σ.sym.bv c : Nat)], rfl, VL.cons rfl (VL.cons rfl (VL.cons hvv VL.nil))⟩, ⟨h4, t, h3, r2⟩, r3⟩
        simp only [execOp, ho]
        refine run_exec_value ?_
        have hd := decode_ascii t pos hlt (by omega)
        rw [h1]
        simp only [Instr.next, Sem.run_bind, getObj, Sem.run, h2, Result.andThen_ok, hlt, if_true, hd, r1, Sem.run_pure, hcc]
        try rfl
      rcases sel_eq hk with ⟨h128, hk⟩ | ⟨_, hk⟩
      · rw [blt_eq, decide_eq_true_eq] at h128
        exact main _ (fun σ _ => by rw [σ.sym.bv_lt (by omega)]; exact ⟨h128, rfl⟩) hk
      · obtain ⟨h256, hk⟩ := chk_eq hk
        rw [ble_true] at h256
        obtain ⟨e, hk, he, hf⟩ := fact_at hk
        refine main _ (fun σ hs => ?_) hk
        have hg := σ.sym.bv_ge h256
        have hx : V σ (FA.s c).av (.int .u8 (σ.sym.bv c : Nat)) := (σ.sym.val_dig h256).symm
        obtain ⟨q, z, q', z', e1, _, h2, h3, h4⟩ := hf hs hx hx
        have h4 := h4 q z q' z' h2 h3
        rw [he] at h4
        injection e1 with e1 e2
        refine ⟨by omega, ?_⟩
        have e3 : IntKind.i32.wrap z = (σ.sym.bv c : Nat) := by
          rw [← e2]; exact inK_wrap (k := .i32) (n := ((σ.sym.bv c : Nat) : Int)) (Nat.ble_eq_true_of_le (by omega))
        rw [← e3]; exact h4
    · refine Says.read hb hk fun σ a w B hf hB hr => ⟨_, ?_, overV_V⟩
      have g : ¬ pos < s.length := fun h => by rw [blt_eq, decide_eq_true h] at g; cases g
      obtain ⟨t, h1, h2, h3, h4⟩ := base σ a w B hf hB hr
      have g' : ¬ pos < t.size := by rw [len_of h3]; exact g
      have hlt := g'
      simp only [execOp, ho]
      refine run_exec_value ?_
      rw [h1]
      simp only [Instr.next, Sem.run_bind, getObj, Sem.run, h2, Result.andThen_ok, hlt, if_false, Sem.run_pure]
  · cases hk

theorem next_none {es : Array MapEntry} {seen : Array Nat} {since last clock r m : Nat} {ty : TypeId} (h1 : w.heap[r]? = some (.mapIter (some m) since seen last)) (h2 : w.heap[m]? = some (.map es clock))
    (hq : (!seen.isEmpty && !es.isEmpty && es.all (fun e => decide (e.born ≥ last))) = false) (hl : es.filter (fun e => !seen.contains e.born) = #[]) :
    (Instr.next (.pointer (some ⟨r, 0, none⟩)) false ty).run X.P w = .ok (.tuple #[.bool false]) w := by
  simp only [Instr.next, Sem.run_bind, getObj, Sem.run, h1, h2, Result.andThen_ok, hq, Bool.false_eq_true, if_false, hl]
  simp [choose, Sem.run, Question.forced]
theorem next_one {es : Array MapEntry} {seen : Array Nat} {since last clock r m : Nat} {ty : TypeId} {e : MapEntry} {w' : World} (h1 : w.heap[r]? = some (.mapIter (some m) since seen last)) (h2 : w.heap[m]? = some (.map es clock))
    (hq : (!seen.isEmpty && !es.isEmpty && es.all (fun e => decide (e.born ≥ last))) = false) (hl : es.filter (fun e => !seen.contains e.born) = #[e]) (hb : e.born < since)
    (hset : (setObj r (.mapIter (some m) since (seen.push e.born) clock)).run X.P w = .ok () w') :
    (Instr.next (.pointer (some ⟨r, 0, none⟩)) false ty).run X.P w = .ok (.tuple #[.bool true, e.key, e.val]) w' := by
  have hb' : ¬ (e.born ≥ since) := by omega
  simp only [Instr.next, Sem.run_bind, getObj, Sem.run, h1, h2, Result.andThen_ok, hq, Bool.false_eq_true, if_false, hl]
  simp [choose, Sem.run, Question.forced, hb, hb', hset]

theorem opNxt_map {o : Oper} {it : Operand} {m : MO} {h : H} {k : Kt} (ho : o.op = .next it false) (hm : mo X.ng n it = some m) (hk : opNxt X.fc m false fr h k = true) : Says X n fr o h k := by
  unfold opNxt at hk
  rw [MO.getK_eq] at hk
  obtain ⟨b, hs, hk⟩ := onPtr0_inv hk
  obtain ⟨bl, hb, hk⟩ := getB_inv hk
  rw [sel_false] at hk
  have lx : ∀ t, it = .tmp t → Lop o t := lop (by rw [ho]; simp [Op.operands])
  have ptr : ∀ (σ : Sig) (a : Act) (w : World) (B : Bk), Fit X σ n fr a (Lop o) → σ.bk b = some B → a.eval it = .pointer (some ⟨B.r, B.o, none⟩) := by
    intro σ a w B hf hB
    have hv := mo_V hm hf lx
    rw [hs] at hv
    obtain ⟨B', hB', hvv⟩ := hv.ptr_inv
    rw [hB] at hB'; cases hB'
    rw [hvv]; rfl
  unfold nxtM at hk
  split at hk
  · rename_i hc
    refine Says.read hb hk fun σ a w B hf hB hr => ⟨_, ?_, overV_V⟩
    rw [hc] at hr
    obtain ⟨h0, h1⟩ := hr
    simp only [execOp, ho]
    refine run_exec_value ?_
    rw [ptr σ a w B hf hB, h0]
    simp only [Instr.next, Sem.run_bind, getObj, Sem.run, h1, Result.andThen_ok, Sem.run_pure]
  · rename_i mb since seen last hc
    obtain ⟨bm, hbm, hk⟩ := getB_inv hk
    obtain ⟨es, cl, hcm, hk⟩ := onMap_inv hk
    obtain ⟨hq, hk⟩ := chk_eq hk
    -- what the two blocks hold
    have base : ∀ (σ : Sig) (G : Hp) (w : World), Ok X σ G w → Ext G (rst h [b, mb]) → ∃ B M ES, σ.bk b = some B ∧ B.o = 0 ∧ σ.bk mb = some M ∧ w.heap[B.r]? = some (.mapIter (some M.r) since seen.toArray last) ∧ w.heap[M.r]? = some (.map ES cl) ∧ EL σ es ES.toList := by
      intro σ G w hok hext
      obtain ⟨B, hB, hr⟩ := hok.rel b bl (rst_ext hext hb (by simp))
      obtain ⟨M, hM, hr2⟩ := hok.rel mb bm (rst_ext hext hbm (by simp))
      rw [hc] at hr
      rw [hcm] at hr2
      obtain ⟨h0, M', hM', h1⟩ := hr
      rw [hM] at hM'; cases hM'
      obtain ⟨ES, h2, h3⟩ := hr2
      exact ⟨B, M, ES, hB, h0, hM, h1, h2, h3⟩
    split at hk
    · rename_i hle
      refine ⟨⟨rst h [b, mb], noCh, h.next, h.next, _⟩, h, ⟨rst_sub, (by rw [app_no]), rfl, rfl, Nat.le_refl _, rfl, fun _ _ h => (by cases h), fun _ h => absurd rfl h⟩, hk, ?_⟩
      intro σ G a w hf hok hext _
      obtain ⟨B, M, ES, hB, h0, hM, h1, h2, h3⟩ := base σ G w hok hext
      refine ⟨_, _, w, σ, ?_, .inl rfl, overV_V, Post.refl hok _⟩
      simp only [execOp, ho]
      refine run_exec_value ?_
      rw [ptr σ a w B hf hB, h0]
      refine next_none h1 h2 (by simpa using quiet_EL h3 hq) ?_
      have := leftE_EL (seen := seen) h3
      rw [hle] at this
      have this : List.filter (fun e => !seen.contains e.born) ES.toList = [] := this
      apply Array.toList_inj.1
      simpa using this
    · rename_i key v born hle
      obtain ⟨hro, hk⟩ := chk_eq hk
      obtain ⟨hbs, hk⟩ := chk_eq hk
      rw [blt_eq, decide_eq_true_eq] at hbs
      rw [snocK_eq] at hk
      refine Says.write (x := bl) (D := rst h [b, mb]) rst_sub (by simp [rst, hb]) (by simpa using hro) hk fun σ G a w B hf hok hext hB hr => ?_
      obtain ⟨B', M, ES, hB', h0, hM, h1, h2, h3⟩ := base σ G w hok hext
      rw [hB] at hB'; cases hB'
      have hL := leftE_EL (seen := seen) h3
      rw [hle] at hL
      obtain ⟨e, us, hL1, g1, g2, g3, g4⟩ := hL
      cases (g4 : us = [])
      obtain ⟨w', r1, r2, r3⟩ := setObj_only (X := X) (o' := .mapIter (some M.r) since (seen.toArray.push e.born) cl) h1 (by simp)
      refine ⟨_, _, w', ?_, .inl rfl, ⟨_, rfl, VL.cons rfl (VL.cons g1 (VL.cons g2 VL.nil))⟩, ⟨h0, M, hM, ?_⟩, r3⟩
      · simp only [execOp, ho]
        refine run_exec_value ?_
        rw [ptr σ a w B hf hB, h0]
        refine next_one h1 h2 (by simpa using quiet_EL h3 hq) ?_ (by rw [g3]; exact hbs) r1
        apply Array.toList_inj.1
        simpa using hL1
      · rw [r2, g3]
        simp
    · cases hk
  · cases hk

end Go.Ev
end

section
set_option linter.unusedVariables false
set_option linter.unusedSimpArgs false
namespace Go.Ev

variable {X : Cx} {σ : Sig} {n : Nat} {fr : Fr} {a : Act} {w : World} {L : Tmp → Prop}

/-! ### the entry of the step -/
noncomputable def lastK (l : List Nat) (k : Nat → Bool) : Bool := List.rec (motive := fun _ => Bool) false (fun x t ih => List.rec (motive := fun _ => Bool) (k x) (fun _ _ _ => ih) t) l
theorem lastK_inv {k : Nat → Bool} : ∀ {l : List Nat}, lastK l k = true → ∃ x, l.getLast? = some x ∧ k x = true
  | [], h => by cases h
  | [x], h => ⟨x, rfl, h⟩
  | x :: y :: l, h => by
    obtain ⟨z, h1, h2⟩ := lastK_inv (l := y :: l) h
    exact ⟨z, by rw [List.getLast?_cons_cons]; exact h1, h2⟩
noncomputable def bornK (es : Ents) (s : Nat) (k : AV → AV → Bool) : Bool := Ents.rec (motive := fun _ => Bool) false (fun key v b _ ih => sel (Nat.beq b s) (k key v) ih) es
theorem bornK_inv {s : Nat} {k : AV → AV → Bool} : ∀ {es : Ents}, bornK es s k = true → ∃ key v, k key v = true ∧ ∀ {σ : Sig} {ES : List MapEntry}, EL σ es ES → ∃ e, ES.find? (fun e => e.born == s) = some e ∧ V σ key e.key ∧ V σ v e.val
  | .nil, h => by cases h
  | .cons key v b l, h => by
    change sel (Nat.beq b s) (k key v) (bornK l s k) = true at h
    rcases sel_eq h with ⟨h1, h⟩ | ⟨h1, h⟩
    · rw [beq_true] at h1
      refine ⟨key, v, h, fun he => ?_⟩
      obtain ⟨e, us, rfl, g1, g2, g3, g4⟩ := he
      exact ⟨e, by rw [List.find?_cons, g3, h1]; simp, g1, g2⟩
    · rw [nbf] at h1
      obtain ⟨key', v', h2, h3⟩ := bornK_inv (es := l) h
      refine ⟨key', v', h2, fun he => ?_⟩
      obtain ⟨e, us, rfl, g1, g2, g3, g4⟩ := he
      obtain ⟨e', q1, q2⟩ := h3 g4
      refine ⟨e', ?_, q2⟩
      have : (e.born == s) = false := by rw [g3]; simp [h1]
      rw [List.find?_cons, this]; exact q1
noncomputable def entM (c : Blk) (h : H) (k : Kt) : Bool := match c with
  | .mit m _ seen last => getB h m fun bl => onMap bl.c fun es cl => chk (Nat.beq cl last) (lastK seen fun s => bornK es s fun key v => k (.tup (.cons key (.cons v .nil))) h)
  | .mitL m born last => getB h m fun bl => onMap bl.c fun es cl => chk (Nat.beq cl last) (bornK es born fun key v => k (.tup (.cons key (.cons v .nil))) h)
  | _ => false
noncomputable def opEnt (it : MO) (fr : Fr) (h : H) (k : Kt) : Bool := it.getK fr fun a => onPtr0 a fun b => getB h b fun bl => entM bl.c h k
theorem opEnt_says {o : Oper} {it : Operand} {m : MO} {h : H} {k : Kt} (ho : o.op = .entry it) (hm : mo X.ng n it = some m) (hk : opEnt m fr h k = true) : Says X n fr o h k := by
  unfold opEnt at hk
  rw [MO.getK_eq] at hk
  obtain ⟨b, hs, hk⟩ := onPtr0_inv hk
  obtain ⟨bl, hb, hk⟩ := getB_inv hk
  have lx : ∀ t, it = .tmp t → Lop o t := lop (by rw [ho]; simp [Op.operands])
  unfold entM at hk
  split at hk
  · rename_i mb since seen last hc
    obtain ⟨bm, hbm, hk⟩ := getB_inv hk
    obtain ⟨es, cl, hcm, hk⟩ := onMap_inv hk
    obtain ⟨hcl, hk⟩ := chk_eq hk
    rw [beq_true] at hcl
    obtain ⟨s, hlast, hk⟩ := lastK_inv hk
    obtain ⟨key, v, hk, hfind⟩ := bornK_inv hk
    refine ⟨⟨rst h [b, mb], noCh, h.next, h.next, _⟩, h, ⟨rst_sub, (by rw [app_no]), rfl, rfl, Nat.le_refl _, rfl, fun _ _ h => (by cases h), fun _ h => absurd rfl h⟩, hk, ?_⟩
    intro σ G a w hf hok hext _
    obtain ⟨B, hB, hr⟩ := hok.rel b bl (rst_ext hext hb (by simp))
    obtain ⟨M, hM, hr2⟩ := hok.rel mb bm (rst_ext hext hbm (by simp))
    rw [hc] at hr
    rw [hcm] at hr2
    obtain ⟨h0, M', hM', h1⟩ := hr
    rw [hM] at hM'; cases hM'
    obtain ⟨ES, h2, h3⟩ := hr2
    obtain ⟨e, q1, q2, q3⟩ := hfind h3
    have hv := mo_V hm hf lx
    rw [hs] at hv
    obtain ⟨B', hB', hvv⟩ := hv.ptr_inv
    rw [hB] at hB'; cases hB'
    refine ⟨.tuple #[e.key, e.val], _, w, σ, ?_, .inl rfl, ⟨_, rfl, VL.cons q2 (VL.cons q3 VL.nil)⟩, Post.refl hok _⟩
    simp only [execOp, ho]
    refine run_exec_value ?_
    have hbk : seen.toArray.back? = some s := by simpa using hlast
    have hcl' : (cl != last) = false := by rw [hcl]; simp
    have hq : ES.find? (fun e => e.born == s) = some e := by rw [← Array.find?_toList]; exact q1
    rw [hvv, h0]
    simp only [Instr.entry, Sem.run_bind, getObj, Sem.run, h1, h2, Result.andThen_ok, hbk, hcl', Bool.false_eq_true, if_false, hq, Sem.run_pure]
  · rename_i mb s last hc
    obtain ⟨bm, hbm, hk⟩ := getB_inv hk
    obtain ⟨es, cl, hcm, hk⟩ := onMap_inv hk
    obtain ⟨hcl, hk⟩ := chk_eq hk
    rw [beq_true] at hcl
    obtain ⟨key, v, hk, hfind⟩ := bornK_inv hk
    refine ⟨⟨rst h [b, mb], noCh, h.next, h.next, _⟩, h, ⟨rst_sub, (by rw [app_no]), rfl, rfl, Nat.le_refl _, rfl, fun _ _ h => (by cases h), fun _ h => absurd rfl h⟩, hk, ?_⟩
    intro σ G a w hf hok hext _
    obtain ⟨B, hB, hr⟩ := hok.rel b bl (rst_ext hext hb (by simp))
    obtain ⟨M, hM, hr2⟩ := hok.rel mb bm (rst_ext hext hbm (by simp))
    rw [hc] at hr
    rw [hcm] at hr2
    obtain ⟨h0, M', since, seen, hM', h1, hbk⟩ := hr
    rw [hM] at hM'; cases hM'
    obtain ⟨ES, h2, h3⟩ := hr2
    obtain ⟨e, q1, q2, q3⟩ := hfind h3
    have hv := mo_V hm hf lx
    rw [hs] at hv
    obtain ⟨B', hB', hvv⟩ := hv.ptr_inv
    rw [hB] at hB'; cases hB'
    refine ⟨.tuple #[e.key, e.val], _, w, σ, ?_, .inl rfl, ⟨_, rfl, VL.cons q2 (VL.cons q3 VL.nil)⟩, Post.refl hok _⟩
    simp only [execOp, ho]
    refine run_exec_value ?_
    have hcl' : (cl != last) = false := by rw [hcl]; simp
    have hq : ES.find? (fun e => e.born == s) = some e := by rw [← Array.find?_toList]; exact q1
    rw [hvv, h0]
    simp only [Instr.entry, Sem.run_bind, getObj, Sem.run, h1, h2, Result.andThen_ok, hbk, hcl', Bool.false_eq_true, if_false, hq, Sem.run_pure]
  · cases hk

/-! ### the library's functions without a body -/
noncomputable def ixbK (s : List Nat) (c i : Nat) (k : Option Nat → Bool) : Bool := List.rec (motive := fun _ => Nat → Bool) (fun _ => k none) (fun b _ ih i => sel (Nat.beq b c) (k (some i)) (ih (Nat.succ i))) s i
theorem ixbK_inv {c : Nat} (hc : c < 256) {k : Option Nat → Bool} : ∀ {s : List UInt8} {i : Nat}, ixbK (s.map UInt8.toNat) c i k = true →
    (∃ j : Nat, k (some (i + j)) = true ∧ Lib.indexByte s c.toUInt8 = (j : Int)) ∨ (k none = true ∧ Lib.indexByte s c.toUInt8 = -1)
  | [], i, h => .inr ⟨h, rfl⟩
  | b :: s, i, h => by
    change sel (Nat.beq b.toNat c) (k (some i)) (ixbK (s.map UInt8.toNat) c (i + 1) k) = true at h
    have hcc : c.toUInt8.toNat = c := by simp [Nat.toUInt8, UInt8.toNat_ofNat, Nat.mod_eq_of_lt hc]
    rcases sel_eq h with ⟨h1, h⟩ | ⟨h1, h⟩
    · rw [beq_true] at h1
      refine .inl ⟨0, h, ?_⟩
      have : (b == c.toUInt8) = true := by rw [beq_iff_eq]; exact UInt8.toNat_inj.1 (by rw [hcc, h1])
      unfold Lib.indexByte; rw [if_pos this]; rfl
    · rw [nbf] at h1
      have hb : ¬ ((b == c.toUInt8) = true) := by rw [beq_iff_eq]; intro e; exact h1 (by rw [e, hcc])
      rcases ixbK_inv hc (s := s) (i := i + 1) h with ⟨j, h2, h3⟩ | ⟨h2, h3⟩
      · refine .inl ⟨j + 1, by rw [show i + (j + 1) = i + 1 + j by omega]; exact h2, ?_⟩
        have hn : ¬ ((((j : Nat) : Int) == -1) = true) := by rw [beq_iff_eq]; omega
        unfold Lib.indexByte; rw [if_neg hb, h3, if_neg hn]; rfl
      · refine .inr ⟨h2, ?_⟩
        unfold Lib.indexByte; rw [if_neg hb, h3]; rfl
noncomputable def cntK (s : List Nat) (c i : Nat) (k : Nat → Bool) : Bool := List.rec (motive := fun _ => Nat → Bool) (fun i => k i) (fun b _ ih i => sel (Nat.beq b c) (ih (Nat.succ i)) (ih i)) s i
theorem cntK_eq {c : Nat} (hc : c < 256) {k : Nat → Bool} : ∀ (s : List UInt8) (i : Nat), cntK (s.map UInt8.toNat) c i k = k (i + Lib.countByte s c.toUInt8)
  | [], i => rfl
  | b :: s, i => by
    show sel (Nat.beq b.toNat c) (cntK (s.map UInt8.toNat) c (i + 1) k) (cntK (s.map UInt8.toNat) c i k) = _
    have hcc : c.toUInt8.toNat = c := by simp [Nat.toUInt8, UInt8.toNat_ofNat, Nat.mod_eq_of_lt hc]
    rw [cntK_eq hc s, cntK_eq hc s]
    unfold Lib.countByte
    rw [List.count_cons]
    by_cases h : b.toNat = c
    · have : (b == c.toUInt8) = true := by rw [beq_iff_eq]; exact UInt8.toNat_inj.1 (by rw [hcc, h])
      rw [beq_true.2 h, sel_true, this, if_pos rfl]; congr 1; omega
    · have hb : ¬ ((b == c.toUInt8) = true) := by rw [beq_iff_eq]; intro e; exact h (by rw [e, hcc])
      rw [nbf.2 h, sel_false, if_neg hb]; rfl

/-- is no byte of a text a digit's? -/
noncomputable def noDig (s : List Nat) (k : Bool) : Bool := List.rec (motive := fun _ => Bool) k (fun c _ ih => chk (Nat.blt c 256) (sel (isD c) false ih)) s
theorem noDig_inv {s : List Nat} {k : Bool} (h : noDig s k = true) : k = true ∧ ∀ c ∈ s, c < 256 ∧ (c < 48 ∨ 57 < c) := by
  induction s with
  | nil => exact ⟨h, fun c hc => by cases hc⟩
  | cons c s ih =>
    obtain ⟨h1, h⟩ := chk_eq (b := Nat.blt c 256) (t := sel (isD c) false (noDig s k)) h
    rw [blt_eq, decide_eq_true_eq] at h1
    rcases sel_eq h with ⟨_, h⟩ | ⟨h2, h⟩
    · cases h
    · obtain ⟨h3, h4⟩ := ih h
      refine ⟨h3, fun d hd => ?_⟩
      rcases List.mem_cons.1 hd with rfl | hd
      · exact ⟨h1, isD_false h2⟩
      · exact h4 d hd
theorem indexByte_none {x : UInt8} : ∀ {s : List UInt8}, (∀ b ∈ s, b ≠ x) → Lib.indexByte s x = -1
  | [], _ => rfl
  | b :: s, h => by
    have hb : ¬ ((b == x) = true) := by rw [beq_iff_eq]; exact h b List.mem_cons_self
    unfold Lib.indexByte
    rw [if_neg hb, indexByte_none fun c hc => h c (List.mem_cons_of_mem _ hc)]
    rfl
noncomputable def xtIx (l : AV) (k : AV → Bool) : Bool := match l with
  | .cons (.str s) (.cons (.int .u8 (.ofNat c)) .nil) => plainK s (chk (Nat.blt c 256) (ixbK s c 0 fun r => oN r (fun i => k (.int .i64 (.ofNat i))) (k (.int .i64 (.negSucc 0)))))
  | .cons (.str s) (.cons (.sym c) .nil) => chk (Nat.ble 256 c) (noDig s (k (.int .i64 (.negSucc 0))))
  | _ => false
noncomputable def xtCn (l : AV) (k : AV → Bool) : Bool := match l with
  | .cons (.str s) (.cons (.int .u8 (.ofNat c)) .nil) => plainK s (chk (Nat.blt c 256) (cntK s c 0 fun i => k (.int .i64 (.ofNat i))))
  | _ => false
noncomputable def xtId (l : AV) (k : AV → Bool) : Bool := match l with
  | .cons x .nil => k x
  | _ => false
noncomputable def opXt (x : Xt) (args : List MO) (fr : Fr) (h : H) (k : Kt) : Bool := rowK fr args fun l => Xt.rec (motive := fun _ => Bool) (xtIx l fun v => k v h) (xtCn l fun v => k v h) (xtId l fun v => k v h) false false x

theorem run_call_fn {c : Call} {a : Act} {ty : TypeId} {f : FuncId} (hc : c.callee = .value (.func f)) (w : World) (P : Program) :
    (do let d ← resolve a.eval c ty; invoke d.target d.args : Sem Next).run P w = (callFunc f (c.args.map a.eval)).run P w := by
  simp [resolve, hc, Act.eval, Deferred.ofValue, invoke]
theorem opXt_says {o : Oper} {c : Call} {f : FuncId} {x : Xt} {ms : List MO} {h : H} {k : Kt} (ho : o.op = .call c) (hc : c.callee = .value (.func f)) (hf : X.E.fk f = some (some x)) (hms : mos X.ng n c.args.toList = some ms) (hk : opXt x ms fr h k = true) : Says X n fr o h k := by
  obtain ⟨fn, e, h1, h2, h3, h4, h5, h6⟩ := X.ok.fx f x hf
  unfold opXt at hk
  rw [rowK_eq] at hk
  have key : ∀ v : AV, k v h = true → (∀ (σ : Sig) (vs : List Value) (w : World), VL σ (rowV fr ms) vs → ∃ u, (e vs.toArray).run X.P w = .ok u w ∧ V σ v u) → Says X n fr o h k := by
    intro v hk hr
    refine Says.pure ⟨v, hk, fun σ a w hfit => ?_⟩
    have hv := mos_VL' hms hfit fun x hx => lop (by rw [ho]; simp [Op.operands, Call.operands, hx])
    obtain ⟨u, hu, hV⟩ := hr σ _ w hv
    refine ⟨u, ?_, hV⟩
    simp only [execOp, ho]
    rw [run_call_fn hc, run_callFunc_extern h1 h2 h3 h4 h5]
    simp only [Array.toArray_toList] at hu
    rw [hu]; rfl
  cases x with
  | indexByte =>
    simp only [xtSem, Option.some.injEq] at h6
    subst h6
    change xtIx (rowV fr ms) (fun v => k v h) = true at hk
    unfold xtIx at hk
    split at hk
    · rename_i s c' hs
      obtain ⟨hpl, hk⟩ := plainK_inv hk
      obtain ⟨hc256, hk⟩ := chk_eq hk
      rw [blt_eq, decide_eq_true_eq] at hc256
      have args : ∀ (σ : Sig) (vs : List Value), VL σ (rowV fr ms) vs → ∃ t : ByteArray, vs.toArray = #[.string t, .int .u8 (c' : Int)] ∧ nums t = s := by
        intro σ vs hv
        rw [hs] at hv
        obtain ⟨u, us, rfl, g1, g2⟩ := hv.cons_inv
        obtain ⟨u2, us2, rfl, g3, g4⟩ := g2.cons_inv
        rw [g4.nil_inv]
        obtain ⟨t, rfl, ht⟩ := g1.str_inv
        rw [hpl] at ht
        exact ⟨t, by rw [g3.int_inv]; rfl, ht⟩
      by_cases hex : ∃ t : ByteArray, nums t = s
      · obtain ⟨t0, ht0⟩ := hex
        have : ixbK (t0.data.toList.map UInt8.toNat) c' 0 (fun r => oN r (fun i => k (.int .i64 (.ofNat i)) h) (k (.int .i64 (.negSucc 0)) h)) = true := by
          have e : t0.data.toList.map UInt8.toNat = s := ht0
          rw [e]; exact hk
        rcases ixbK_inv hc256 this with ⟨j, hk, hj⟩ | ⟨hk, hj⟩
        · refine key _ hk fun σ vs w hv => ⟨_, ?_, rfl⟩
          obtain ⟨t, e1, e2⟩ := args σ vs hv
          rw [e1, Lib.run_indexByteString]
          have := nums_inj (e2.trans ht0.symm)
          subst this
          rw [show ((c' : Int)).toNat = c' from rfl, hj]
          simp
        · refine key _ hk fun σ vs w hv => ⟨_, ?_, rfl⟩
          obtain ⟨t, e1, e2⟩ := args σ vs hv
          rw [e1, Lib.run_indexByteString]
          have := nums_inj (e2.trans ht0.symm)
          subst this
          rw [show ((c' : Int)).toNat = c' from rfl, hj]
          rfl
      · have some1 : ∀ (s : List Nat) (i : Nat), ixbK s c' i (fun r => oN r (fun i => k (.int .i64 (.ofNat i)) h) (k (.int .i64 (.negSucc 0)) h)) = true → ∃ v, k v h = true := by
          intro s
          induction s with
          | nil => exact fun i h => ⟨_, h⟩
          | cons b s ih =>
            intro i h
            rcases sel_eq h with ⟨_, h⟩ | ⟨_, h⟩
            · exact ⟨_, h⟩
            · exact ih _ h
        obtain ⟨v, hv⟩ := some1 s 0 hk
        exact key v hv fun σ vs w hv => absurd ⟨_, (args σ vs hv).choose_spec.2⟩ hex
    · rename_i s c' hs
      obtain ⟨hc256, hk⟩ := chk_eq hk
      rw [ble_true] at hc256
      obtain ⟨hk, hno⟩ := noDig_inv hk
      refine key _ hk fun σ vs w hv => ⟨_, ?_, rfl⟩
      rw [hs] at hv
      obtain ⟨u, us, rfl, g1, g2⟩ := hv.cons_inv
      obtain ⟨u2, us2, rfl, g3, g4⟩ := g2.cons_inv
      rw [g4.nil_inv]
      obtain ⟨t, rfl, ht⟩ := g1.str_inv
      have g3 : u2 = σ.sym.val c' := g3
      rw [σ.sym.val_dig hc256] at g3
      subst g3
      rw [σ.sym.map_plain fun c hc => (hno c hc).1] at ht
      have hd := σ.sym.bv_ge hc256
      have e : (σ.sym.bv c').toUInt8.toNat = σ.sym.bv c' := by simp [Nat.toUInt8, UInt8.toNat_ofNat, Nat.mod_eq_of_lt (σ.sym.bv_byte c')]
      have hn : Lib.indexByte t.data.toList (σ.sym.bv c').toUInt8 = -1 := indexByte_none fun b hb e2 => by
        have h1 := hno b.toNat (by rw [← ht]; exact List.mem_map_of_mem hb)
        rw [e2, e] at h1
        omega
      have ea : ([Value.string t, Value.int .u8 (σ.sym.bv c' : Nat)] : List Value).toArray = #[.string t, .int .u8 (σ.sym.bv c' : Nat)] := rfl
      rw [ea, Lib.run_indexByteString]
      rw [show ((σ.sym.bv c' : Nat) : Int).toNat = σ.sym.bv c' from rfl, hn]
      rfl
    · cases hk
  | count =>
    simp only [xtSem, Option.some.injEq] at h6
    subst h6
    change xtCn (rowV fr ms) (fun v => k v h) = true at hk
    unfold xtCn at hk
    split at hk
    · rename_i s c' hs
      obtain ⟨hpl, hk⟩ := plainK_inv hk
      obtain ⟨hc256, hk⟩ := chk_eq hk
      rw [blt_eq, decide_eq_true_eq] at hc256
      have args : ∀ (σ : Sig) (vs : List Value), VL σ (rowV fr ms) vs → ∃ t : ByteArray, vs.toArray = #[.string t, .int .u8 (c' : Int)] ∧ nums t = s := by
        intro σ vs hv
        rw [hs] at hv
        obtain ⟨u, us, rfl, g1, g2⟩ := hv.cons_inv
        obtain ⟨u2, us2, rfl, g3, g4⟩ := g2.cons_inv
        rw [g4.nil_inv]
        obtain ⟨t, rfl, ht⟩ := g1.str_inv
        rw [hpl] at ht
        exact ⟨t, by rw [g3.int_inv]; rfl, ht⟩
      by_cases hex : ∃ t : ByteArray, nums t = s
      · obtain ⟨t0, ht0⟩ := hex
        have e : t0.data.toList.map UInt8.toNat = s := ht0
        rw [← e, cntK_eq hc256] at hk
        refine key _ hk fun σ vs w hv => ⟨_, ?_, rfl⟩
        obtain ⟨t, e1, e2⟩ := args σ vs hv
        rw [e1, Lib.run_countString]
        have := nums_inj (e2.trans ht0.symm)
        subst this
        rw [show ((c' : Int)).toNat = c' from rfl, Nat.zero_add]
        rfl
      · have some1 : ∀ (s : List Nat) (i : Nat), cntK s c' i (fun i => k (.int .i64 (.ofNat i)) h) = true → ∃ v, k v h = true := by
          intro s
          induction s with
          | nil => exact fun i h => ⟨_, h⟩
          | cons b s ih =>
            intro i h
            rcases sel_eq h with ⟨_, h⟩ | ⟨_, h⟩
            · exact ih _ h
            · exact ih _ h
        obtain ⟨v, hv⟩ := some1 s 0 hk
        exact key v hv fun σ vs w hv => absurd ⟨_, (args σ vs hv).choose_spec.2⟩ hex
    · cases hk
  | noEscape =>
    simp only [xtSem, Option.some.injEq] at h6
    subst h6
    change xtId (rowV fr ms) (fun v => k v h) = true at hk
    unfold xtId at hk
    split at hk
    · rename_i x hs
      refine key _ hk fun σ vs w hv => ?_
      rw [hs] at hv
      obtain ⟨u, us, rfl, g1, g2⟩ := hv.cons_inv
      rw [g2.nil_inv]
      exact ⟨u, rfl, g1⟩
    · cases hk
  | mapsClone => cases hk
  | makeNoZero => cases hk

end Go.Ev
end

section
set_option linter.unusedVariables false
set_option linter.unusedSimpArgs false
namespace Go.Ev

variable {X : Cx} {σ : Sig} {n : Nat} {fr : Fr} {a : Act} {w : World} {L : Tmp → Prop}

/-! ### package unsafe, as strings.Builder uses it -/
theorem rel_shape {B : Bk} {cs : AV} {el fz : Nat} {p z : Bool} (h : RelC X σ w B (.cells cs el fz p z)) : ∃ q m, w.shape? B.r = some (q, m) ∧ B.o + cs.len ≤ m ∧ (el ≠ 0 → q = el) := by
  obtain ⟨C, f, ⟨q, h1, hq⟩, h2, ⟨vs, h3, h4, _⟩, _⟩ := h
  have := h3.len
  exact ⟨q, C.size, by simp [World.shape?, h1], by omega, hq⟩
noncomputable def opCvpu (x : MO) (fr : Fr) (h : H) (k : Kt) : Bool := x.getK fr fun a => match a with
  | .nilp => k .nilp h
  | .ptr b o => getB h b fun bl => onCells bl.c fun cs _ _ _ _ => rlenK cs 0 fun l => chk (Nat.blt o l) (k (.ptr b o) h)
  | _ => false
theorem opCvpu_says {o : Oper} {s d t : TypeId} {i : TypeInfo} {x : Operand} {m : MO} {h : H} {k : Kt} (ho : o.op = .convert s d x) (hs : X.E.und s = some (.pointer t)) (hd : X.E.und d = some .unsafePointer) (hi : X.E.ty t = some i) (h0 : 0 < i.size) (hm : mo X.ng n x = some m)
    (hk : opCvpu m fr h k = true) : Says X n fr o h k := by
  unfold opCvpu at hk
  rw [MO.getK_eq] at hk
  have lx : ∀ t, x = .tmp t → Lop o t := lop (by rw [ho]; simp [Op.operands])
  split at hk
  · rename_i hv0
    refine Says.pure ⟨_, hk, pureV (s := fun a => convert s d (a.eval x)) (fun a => by simp only [execOp, ho]) fun σ a w hf => ⟨.pointer none, ?_, rfl⟩⟩
    have hv := mo_V hm hf lx
    rw [hv0] at hv
    have hv : a.eval x = .pointer none := hv
    rw [hv]
    simp [convert, run_und hs, run_und hd, Conv.unsafePointer]
  · rename_i b ob hv0
    obtain ⟨bl, hb, hk⟩ := getB_inv hk
    obtain ⟨cs, el, fz, p, z, hc, hk⟩ := onCells_inv hk
    obtain ⟨hk, _⟩ := rlenK_inv hk
    obtain ⟨h1, hk⟩ := chk_eq hk
    rw [Nat.zero_add, blt_eq, decide_eq_true_eq] at h1
    refine Says.read hb hk fun σ a w B hf hB hr => ?_
    have hv := mo_V hm hf lx
    rw [hv0] at hv
    obtain ⟨B', hB', hvv⟩ := hv.ptr_inv
    rw [hB] at hB'; cases hB'
    rw [hc] at hr
    obtain ⟨_, q, hq, hle, _⟩ := rel_shape hr
    refine ⟨.pointer (some ⟨B.r, B.o + ob, none⟩), ?_, B, hB, rfl⟩
    simp only [execOp, ho]
    refine run_exec_value ?_
    rw [hvv]
    exact Lib.run_to_unsafe (P := X.P) w ⟨B.r, B.o + ob, none⟩ (X.ok.und hs) (X.ok.und hd) (X.ok.ty _ _ hi) (by omega) hq (by show B.o + ob < q; omega)
  · cases hk
theorem rowAt_mono {P : Program} {fits : TypeId → Bool} {c c' : Nat} (hc : c ≤ c') : ∀ {d : Nat} {e : TypeId} {off n : Nat}, rowAt P fits d e c off n = true → rowAt P fits d e c' off n = true := by
  intro d e off n h
  cases d with
  | zero => exact h
  | succ d =>
    simp only [rowAt] at h ⊢
    split at h
    · rename_i h0; rw [if_pos h0]; exact h
    · rename_i h0
      rw [if_neg h0]
      simp only [Bool.or_eq_true, Bool.and_eq_true, decide_eq_true_eq] at h ⊢
      rcases h with ⟨⟨h1, h2⟩, h3⟩ | ⟨h1, h2⟩
      · exact .inl ⟨⟨h1, by omega⟩, h3⟩
      · exact .inr ⟨by omega, h2⟩
theorem liesAt_mono {P : Program} {c c' : Nat} (hc : c ≤ c') : ∀ {d : Nat} {e u : TypeId} {off n : Nat}, liesAt P d e c off u n = true → liesAt P d e c' off u n = true := by
  intro d
  induction d with
  | zero => exact fun h => h
  | succ d ih =>
    intro e u off n h
    simp only [liesAt, Bool.or_eq_true] at h ⊢
    rcases h with h | h
    · exact .inl (rowAt_mono hc h)
    · right
      split at h
      · exact ih h
      · cases h
noncomputable def lieK (tb : List (Nat × Nat × Nat)) (el o : Nat) (k : Nat → Bool) : Bool := List.rec (motive := fun _ => Bool) false (fun p _ ih => sel (Nat.beq p.1 el) (sel (Nat.beq p.2.1 o) (k p.2.2) ih) ih) tb
theorem lieK_inv {el o : Nat} {k : Nat → Bool} : ∀ {tb : List (Nat × Nat × Nat)}, lieK tb el o k = true → ∃ s, (el, o, s) ∈ tb ∧ k s = true
  | [], h => by cases h
  | p :: tb, h => by
    have h : sel (Nat.beq p.1 el) (sel (Nat.beq p.2.1 o) (k p.2.2) (lieK tb el o k)) (lieK tb el o k) = true := h
    have rest : lieK tb el o k = true → ∃ s, (el, o, s) ∈ p :: tb ∧ k s = true := fun h => let ⟨s, h1, h2⟩ := lieK_inv h; ⟨s, List.mem_cons_of_mem _ h1, h2⟩
    rcases sel_eq h with ⟨h1, q⟩ | ⟨_, q⟩
    · rcases sel_eq q with ⟨h2, q2⟩ | ⟨_, q2⟩
      · have e1 := Nat.eq_of_beq_eq_true h1
        have e2 := Nat.eq_of_beq_eq_true h2
        refine ⟨p.2.2, ?_, q2⟩
        rw [← e1, ← e2]
        exact List.mem_cons_self
      · exact rest q2
    · exact rest q
noncomputable def opCvup (tb : List (Nat × Nat × Nat)) (x : MO) (fr : Fr) (h : H) (k : Kt) : Bool := x.getK fr fun a => match a with
  | .nilp => k .nilp h
  | .ptr b o => getB h b fun bl => onCells bl.c fun cs el _ _ z => chk z (chk (Nat.blt 0 el) (lieK tb el o fun s => rlenK cs 0 fun l => chk (Nat.ble s l) (k (.ptr b o) h)))
  | _ => false
theorem opCvup_says {o : Oper} {s d u : TypeId} {i : TypeInfo} {x : Operand} {m : MO} {h : H} {k : Kt} (ho : o.op = .convert s d x) (hs : X.E.und s = some .unsafePointer) (hd : X.E.und d = some (.pointer u)) (hi : X.E.ty u = some i) (h0 : 0 < i.size) (hm : mo X.ng n x = some m)
    (hk : opCvup (X.E.lies u) m fr h k = true) : Says X n fr o h k := by
  unfold opCvup at hk
  rw [MO.getK_eq] at hk
  have lx : ∀ t, x = .tmp t → Lop o t := lop (by rw [ho]; simp [Op.operands])
  split at hk
  · rename_i hv0
    refine Says.pure ⟨_, hk, pureV (s := fun a => convert s d (a.eval x)) (fun a => by simp only [execOp, ho]) fun σ a w hf => ⟨.pointer none, ?_, rfl⟩⟩
    have hv := mo_V hm hf lx
    rw [hv0] at hv
    have hv : a.eval x = .pointer none := hv
    rw [hv]
    simp [convert, run_und hs, run_und hd, Conv.unsafePointer]
  · rename_i b ob hv0
    obtain ⟨bl, hb, hk⟩ := getB_inv hk
    obtain ⟨cs, el, fz, p, z, hc, hk⟩ := onCells_inv hk
    obtain ⟨hz, hk⟩ := chk_eq hk
    obtain ⟨hel, hk⟩ := chk_eq hk
    rw [blt_eq, decide_eq_true_eq] at hel
    obtain ⟨sz, hmem, hk⟩ := lieK_inv hk
    obtain ⟨hl1, hl2, hl3⟩ := X.ok.lies u el ob sz hmem
    obtain ⟨hk, _⟩ := rlenK_inv hk
    obtain ⟨h1, hk⟩ := chk_eq hk
    rw [Nat.zero_add, ble_true] at h1
    refine Says.read hb hk fun σ a w B hf hB hr => ?_
    have hv := mo_V hm hf lx
    rw [hv0] at hv
    obtain ⟨B', hB', hvv⟩ := hv.ptr_inv
    rw [hB] at hB'; cases hB'
    rw [hc] at hr
    obtain ⟨qt, q, hq, hle, hqt⟩ := rel_shape hr
    obtain rfl := hqt (by omega)
    have hBo : B.o = 0 := hr.choose_spec.choose_spec.2.2.2.2.2 hz
    refine ⟨.pointer (some ⟨B.r, B.o + ob, none⟩), ?_, B, hB, rfl⟩
    simp only [execOp, ho]
    refine run_exec_value ?_
    rw [hvv]
    refine Lib.run_from_unsafe (P := X.P) w ⟨B.r, B.o + ob, none⟩ (X.ok.und hs) (X.ok.und hd) (X.ok.ty _ _ hi) hq ?_
    simp only [hBo, Nat.zero_add]
    refine liesAt_mono ?_ hl1
    rw [hl2]
    exact (Nat.le_div_iff_mul_le hl3).2 (by omega)
  · cases hk
noncomputable def opSsd (x : MO) (fr : Fr) (h : H) (k : Kt) : Bool := x.getK fr fun a => match a with
  | .nils => k .nilp h
  | .sl b o _ cap _ => chk (Nat.ble 1 cap) (k (.ptr b o) h)
  | _ => false
theorem opSsd_says {o : Oper} {c : Call} {x : Operand} {m : MO} {h : H} {k : Kt} (ho : o.op = .call c) (hc : c.callee = .builtin .unsafeSliceData) (ha : c.args.toList = [x]) (hm : mo X.ng n x = some m) (hk : opSsd m fr h k = true) : Says X n fr o h k := by
  have ha := args1 ha
  have lx : ∀ t, x = .tmp t → Lop o t := lop (by rw [ho]; simp [Op.operands, Call.operands, ha])
  unfold opSsd at hk
  rw [MO.getK_eq] at hk
  split at hk
  · rename_i hv0
    refine Says.pure ⟨_, hk, fun σ a w hf => ⟨_, ?_, rfl⟩⟩
    have hv := mo_V hm hf lx
    rw [hv0] at hv
    have hv : a.eval x = .slice none 0 0 := hv
    simp only [execOp, ho]
    obtain ⟨cs, hcs⟩ := run_call_builtin (a := a) (ty := o.type) hc w X.P
    rw [hcs]
    simp only [builtin]
    refine run_exec_value ?_
    rw [ha]
    simp only [List.map_toArray, List.map_cons, List.map_nil, hv]
    rfl
  · rename_i b ob l cap ext hv0
    obtain ⟨h1, hk⟩ := chk_eq hk
    rw [ble_true] at h1
    refine Says.pure ⟨_, hk, fun σ a w hf => ?_⟩
    have hv := mo_V hm hf lx
    rw [hv0] at hv
    obtain ⟨B, c', hB, hvv, _, hcc, _⟩ := (hv : ∃ x c, _)
    have hne : c' ≠ 0 := by omega
    refine ⟨.pointer (some ⟨B.r, B.o + ob, none⟩), ?_, B, hB, rfl⟩
    simp only [execOp, ho]
    obtain ⟨cs, hcs⟩ := run_call_builtin (a := a) (ty := o.type) hc w X.P
    rw [hcs]
    simp only [builtin]
    refine run_exec_value ?_
    rw [ha]
    simp only [List.map_toArray, List.map_cons, List.map_nil, hvv]
    have e : Builtin.unsafeSliceData_ c.argTypes o.type #[.slice (some ⟨B.r, B.o + ob, none⟩) l c'] = (if c' ≠ 0 then pure (.pointer (some ⟨B.r, B.o + ob, none⟩)) else do
      if (← viewAt B.r).isSome then pure (.pointer (some ⟨B.r, B.o + ob, none⟩)) else pure (.pointer (some ⟨← newObj (.view ⟨B.r, B.o + ob, none⟩ (← elemOf o.type)), 0, none⟩)) : Sem Value) := rfl
    rw [e, if_pos hne]
    rfl
  · cases hk

theorem lies_bytes {P : Program} {e : TypeId} (hc : P.cellsOf e = 1) (count off m : Nat) (hn : off + m ≤ count) : liesAt P P.depth e count off e m = true := by
  have hd : P.depth = (2 * (P.types.size + Made.depth) + 1) + 1 := rfl
  rw [hd]
  simp only [liesAt, Bool.or_eq_true]
  left
  rw [hd]
  simp [rowAt, hc, hn, sameLayout, Nat.mod_one]
noncomputable def opUst (e : Nat) (x l : MO) (fr : Fr) (h : H) (k : Kt) : Bool := x.getK fr fun a => l.getK fr fun l => ixK l fun m => sel (Nat.beq m 0)
  (match a with | .nilp => k (.str []) h | .ptr _ _ => k (.str []) h | _ => false)
  (onPtr a fun b o => getB h b fun bl => chk (!bl.ro) (onCells bl.c fun cs el _ p z => chk p (chk (Nat.beq el e) (chk (Nat.blt 0 e) (chk (Nat.ble m 16777216) (rdropK o cs fun q => rtakeK m q fun q => rowBytes q fun s => fN (Nat.add o m) fun fz => putB h b (.cells cs el fz false z) fun h => k (.str s) h))))))
theorem opUst_says {o : Oper} {c : Call} {pt e : TypeId} {i : TypeInfo} {x l : Operand} {m ml : MO} {h : H} {k : Kt} (ho : o.op = .call c) (hc : c.callee = .builtin .unsafeString) (ha : c.args.toList = [x, l]) (hpt : c.argTypes[0]? = some pt) (hp : X.E.und pt = some (.pointer e)) (hi : X.E.ty e = some i) (h1 : i.size = 1)
    (hm : mo X.ng n x = some m) (hml : mo X.ng n l = some ml) (hk : opUst e m ml fr h k = true) : Says X n fr o h k := by
  have ha := args2 ha
  have lx : ∀ t, x = .tmp t → Lop o t := lop (by rw [ho]; simp [Op.operands, Call.operands, ha])
  have ll : ∀ t, l = .tmp t → Lop o t := lop (by rw [ho]; simp [Op.operands, Call.operands, ha])
  have hcell : X.P.cellsOf e = 1 := by simp [Program.cellsOf, X.ok.ty _ _ hi, h1]
  -- the call, in the model's words
  have run : ∀ (a : Act) (p : Option Addr) (q : IntKind) (j : Nat) (r : Value) (w w' : World), a.eval x = .pointer p → a.eval l = .int q (j : Int) → j ≤ 16777216 →
      ((match p with
        | none => if (j : Int) = 0 then pure (.string .empty) else runtimePanic (.error "unsafe.String: ptr is nil and len is not zero")
        | some a => if (j : Int) = 0 then pure (.string .empty) else do
            if ← variablesAt a e j then do
              let s ← loadBytes a .empty j
              freeze a j
              pure (.string s)
            else unsupported (.unsafePointer "String: not so many bytes at ptr") : Sem Value)).run X.P w = .ok r w' →
      (execOp a.eval o).run X.P w = .ok (.value r) w' := by
    intro a p q j r w w' e1 e2 hj hr
    simp only [execOp, ho]
    obtain ⟨cs, hcs⟩ := run_call_builtin (a := a) (ty := o.type) hc w X.P
    rw [hcs]
    simp only [builtin]
    refine run_exec_value ?_
    rw [ha]
    simp only [List.map_toArray, List.map_cons, List.map_nil, e1, e2]
    have hmax : IntKind.i64.max = 9223372036854775807 := rfl
    have n1 : ¬ ((j : Int) < 0) := by omega
    have n2 : ¬ ((j : Int) > IntKind.i64.max) := by rw [hmax]; omega
    have hdef : Builtin.unsafeString_ c.argTypes o.type #[.pointer p, .int q (j : Int)] = (do
        let n ← asInt (.int q (j : Int))
        let some pt := c.argTypes[0]? | stuck "unsafe.String: no argument types"
        if n < 0 then runtimePanic (.error "unsafe.String: len out of range")
        if n > IntKind.i64.max then unsupported (.unsafePointer "String: a length above the largest int")
        match p with
        | none => if n = 0 then pure (.string .empty) else runtimePanic (.error "unsafe.String: ptr is nil and len is not zero")
        | some a =>
          if n = 0 then pure (.string .empty)
          else if ← variablesAt a (← elemOf pt) n.toNat then do
            let s ← loadBytes a .empty n.toNat
            freeze a n.toNat
            pure (.string s)
          else unsupported (.unsafePointer "String: not so many bytes at ptr")) := rfl
    rw [hdef]
    simp only [asInt, asIntOf, Sem.run_bind, Sem.run_pure, Result.andThen_ok, hpt, if_neg n1, if_neg n2]
    cases p with
    | none => exact hr
    | some a =>
      by_cases hz : (j : Int) = 0
      · simp only [if_pos hz] at hr ⊢; exact hr
      · simp only [if_neg hz, Sem.run_bind, elemOf, run_und hp, Result.andThen_ok, Sem.run_pure, Int.toNat_natCast] at hr ⊢
        exact hr
  unfold opUst at hk
  simp only [MO.getK_eq] at hk
  obtain ⟨q, j, hj, hk⟩ := ixK_inv hk
  have lv : ∀ (σ : Sig) (a : Act), Fit X σ n fr a (Lop o) → a.eval l = .int q (j : Int) := fun σ a hf => by
    have := mo_V hml hf ll
    rw [hj] at this
    exact this.int_inv
  rcases sel_eq hk with ⟨g, hk⟩ | ⟨g, hk⟩
  · rw [beq_true] at g
    subst g
    split at hk
    · rename_i hv0
      refine Says.pure ⟨_, hk, fun σ a w hf => ⟨.string .empty, ?_, _, rfl, rfl⟩⟩
      have hv := mo_V hm hf lx
      rw [hv0] at hv
      exact run a none q 0 _ w w hv (lv σ a hf) (by omega) rfl
    · rename_i b ob hv0
      refine Says.pure ⟨_, hk, fun σ a w hf => ⟨.string .empty, ?_, _, rfl, rfl⟩⟩
      have hv := mo_V hm hf lx
      rw [hv0] at hv
      obtain ⟨B, hB, hvv⟩ := hv.ptr_inv
      exact run a _ q 0 _ w w hvv (lv σ a hf) (by omega) rfl
    · cases hk
  · rw [nbf] at g
    obtain ⟨b, ob, hv0, hk⟩ := onPtr_inv hk
    obtain ⟨bl, hb, hk⟩ := getB_inv hk
    obtain ⟨hro, hk⟩ := chk_eq hk
    obtain ⟨cs, el, fz, p, z, hcl, hk⟩ := onCells_inv hk
    obtain ⟨hp1, hk⟩ := chk_eq hk
    obtain ⟨hel, hk⟩ := chk_eq hk
    obtain ⟨hel0, hk⟩ := chk_eq hk
    rw [blt_eq, decide_eq_true_eq] at hel0
    obtain ⟨hbig, hk⟩ := chk_eq hk
    obtain ⟨k1, hk⟩ := rdropK_inv hk
    obtain ⟨k2, hk⟩ := rtakeK_inv hk
    obtain ⟨s0, hk, hrow⟩ := rowBytes_inv hk
    rw [fN_eq] at hk
    rw [beq_true] at hel
    rw [ble_true] at hbig
    refine Says.write (x := bl) (dOne_sub hb) (by simp [dOne]) (by simpa using hro) hk fun σ G a w B hf hok he hB hr => ?_
    have hv := mo_V hm hf lx
    rw [hv0] at hv
    obtain ⟨B', hB', hvv⟩ := hv.ptr_inv
    rw [hB] at hB'; cases hB'
    rw [hcl] at hr
    obtain ⟨us, e1, e2, e3⟩ := rel_cells hr k1 k2
    obtain ⟨qt, qs, hq, hle, hqt⟩ := rel_shape hr
    obtain rfl := hqt (by omega)
    obtain ⟨s, e4, e6⟩ := hrow e2
    have e5 : s.length = j := by rw [← e1, e4, List.length_map]
    obtain ⟨C, f, ⟨tq, c1, ct⟩, c2, ⟨vs, c3, c4, c5⟩, c6, c7, c8⟩ := hr
    have hf0 := c7 hp1
    have hlb := Lib.run_loadBytes (P := X.P) w s ⟨B.r, B.o + ob, none⟩ .empty (fun j' x' hx' => e3 j' _ (by rw [e4]; simp [hx']))
    rw [e5] at hlb
    have hlen : ob + j ≤ cs.len := by have := (VL.drop c3 k1).len; have := c3.len; rw [List.length_drop] at *; omega
    have hlies : (variablesAt ⟨B.r, B.o + ob, none⟩ e j).run X.P w = .ok true w := by
      simp only [variablesAt, Sem.run_bind, run_program, run_shape, hq, Result.andThen_ok, Sem.run_pure, hel]
      rw [lies_bytes hcell _ _ _ (by rw [hcell, Nat.div_one]; omega)]
    have hjz : ¬ ((j : Int) = 0) := by omega
    have hfz : j ≠ 0 := g
    refine ⟨.string ⟨ByteArray.empty.data ++ s.toArray⟩, _, w.freeze ⟨B.r, B.o + ob, none⟩ j, run a _ q j _ w _ hvv (lv σ a hf) hbig ?_, .inl rfl, ⟨_, rfl, ?_⟩, ?_, ?_⟩
    · simp only [if_neg hjz, Sem.run_bind, hlies, Result.andThen_ok, if_true, hlb, run_freeze, Sem.run_pure]
    · simpa [nums] using e6
    · refine ⟨C, (B.o + ob, B.o + ob + j), ⟨tq, ?_, ct⟩, c2, ⟨vs, c3, c4, c5⟩, fun i' h1 h2 => ?_, fun h => (by cases h), c8⟩
      · simp only [World.freeze, if_neg hfz]
        rw [Array.getElem?_modify, if_pos rfl, c1]
        obtain ⟨lo, hi⟩ := f
        simp only at hf0
        subst hf0
        simp
      · simp only
        change ob + j ≤ i' at h1
        omega
    · refine ⟨by simp only [World.freeze, if_neg hfz, Array.size_modify], fun r hr' => ?_, ?_, ?_, ?_⟩
      · simp only [World.freeze, if_neg hfz]
        rw [Array.getElem?_modify, if_neg (Ne.symm hr')]
      · simp only [World.freeze, if_neg hfz]
      · simp only [World.freeze, if_neg hfz]
      · simp only [World.freeze, if_neg hfz]

end Go.Ev
end

section
set_option linter.unusedVariables false
set_option linter.unusedSimpArgs false
namespace Go.Ev

variable {X : Cx} {σ : Sig} {n : Nat} {fr : Fr} {a : Act} {w : World} {L : Tmp → Prop}

/-! ### a number's complement -/
noncomputable def opCpl (fc : List Fact) (x : MO) (fr : Fr) (h : H) (k : Kt) : Bool := x.getK fr fun a => match a with
  | .int q i => chk (IntKind.signed q) (binK fc .xor (.int q (.negSucc 0)) (.int q i) fun v => k v h)
  | _ => false
theorem opCpl_inv {o : Oper} {t : TypeId} {x : Operand} {m : MO} {h : H} {k : Kt} (ho : o.op = .unOp .xor t x) (hm : mo X.ng n x = some m) (hk : opCpl X.fc m fr h k = true) : ∃ v, k v h = true ∧ Pure X n fr o v := by
  unfold opCpl at hk
  rw [MO.getK_eq] at hk
  split at hk
  · rename_i q i h1
    obtain ⟨hs, hk⟩ := chk_eq hk
    obtain ⟨v, hk, hr⟩ := binK_inv hk
    refine ⟨v, hk, pureV (s := fun a => Op.unary .xor (a.eval x)) (fun a => by simp only [execOp, ho]) fun σ a w hf => ?_⟩
    have hv := mo_V hm hf (lop (by rw [ho]; simp [Op.operands]))
    rw [h1] at hv
    obtain ⟨u, hu, hV⟩ := hr σ t x x (.int q (.negSucc 0)) (.int q i) w hf.sane rfl rfl
    refine ⟨u, ?_, hV⟩
    rw [hv.int_inv]
    have e : (Int.negSucc 0) = -1 := rfl
    rw [e] at hu
    simpa [Op.unary, hs, eqGuard, Go.binOp] using hu
  · cases hk

/-! ### copying nothing -/
noncomputable def zeroL (a : AV) (yes no : Bool) : Bool := match a with
  | .nils => yes
  | .sl _ _ l _ _ => sel (Nat.beq l 0) yes no
  | .str l => List.rec (motive := fun _ => Bool) yes (fun _ _ _ => no) l
  | _ => false
noncomputable def isSl (a : AV) (k : Bool) : Bool := match a with
  | .nils => k
  | .sl _ _ _ _ _ => k
  | _ => false
noncomputable def isSeq (a : AV) (k : Bool) : Bool := match a with
  | .nils => k
  | .sl _ _ _ _ _ => k
  | .str _ => k
  | _ => false
noncomputable def opCpy (x y : MO) (fr : Fr) (h : H) (k : Kt) : Bool := x.getK fr fun a => y.getK fr fun b => isSl a (isSeq b (zeroL a (k (.int .i64 (.ofNat 0)) h) (zeroL b (k (.int .i64 (.ofNat 0)) h) false)))
theorem zeroL_inv {a : AV} {yes no : Bool} (h : zeroL a yes no = true) : (yes = true ∧ (a = .nils ∨ (∃ b o c e, a = .sl b o 0 c e) ∨ a = .str [])) ∨ no = true := by
  unfold zeroL at h
  split at h
  · exact .inl ⟨h, .inl rfl⟩
  · rcases sel_eq h with ⟨h1, h⟩ | ⟨_, h⟩
    · rw [beq_true] at h1; subst h1
      exact .inl ⟨h, .inr (.inl ⟨_, _, _, _, rfl⟩)⟩
    · exact .inr h
  · rename_i l
    cases l with
    | nil => exact .inl ⟨h, .inr (.inr rfl)⟩
    | cons b l => exact .inr h
  · cases h
/-- a row of things, and how many -/
def SeqV (v : Value) (m : Nat) : Prop := (∃ b c, v = .slice b m c) ∨ ∃ s : ByteArray, v = .string s ∧ s.size = m
theorem isSeq_V {a : AV} {k : Bool} (h : isSeq a k = true) : k = true ∧ ∀ {σ : Sig} {v : Value}, V σ a v → ∃ m, SeqV v m := by
  unfold isSeq at h
  split at h
  · exact ⟨h, fun hv => ⟨0, .inl ⟨none, 0, hv⟩⟩⟩
  · exact ⟨h, fun hv => by obtain ⟨B, c, _, hv, _⟩ := hv; exact ⟨_, .inl ⟨_, _, hv⟩⟩⟩
  · exact ⟨h, fun hv => by obtain ⟨t, rfl, _⟩ := hv.str_inv; exact ⟨_, .inr ⟨t, rfl, rfl⟩⟩⟩
  · cases h
theorem isSl_V {a : AV} {k : Bool} (h : isSl a k = true) : k = true ∧ ∀ {σ : Sig} {v : Value}, V σ a v → ∃ b m c, v = .slice b m c := by
  unfold isSl at h
  split at h
  · exact ⟨h, fun hv => ⟨none, 0, 0, hv⟩⟩
  · exact ⟨h, fun hv => by obtain ⟨B, c, _, hv, _⟩ := hv; exact ⟨_, _, _, hv⟩⟩
  · cases h
theorem zero_V {a : AV} (h : a = .nils ∨ (∃ b o c e, a = .sl b o 0 c e) ∨ a = .str []) {v : Value} (hv : V σ a v) : (∃ b c, v = .slice b 0 c) ∨ ∃ s : ByteArray, v = .string s ∧ s.size = 0 := by
  rcases h with rfl | ⟨b, o, c, e, rfl⟩ | rfl
  · exact .inl ⟨none, 0, hv⟩
  · obtain ⟨B, c, _, hv, _⟩ := hv; exact .inl ⟨_, _, hv⟩
  · obtain ⟨t, rfl, ht⟩ := hv.str_inv
    exact .inr ⟨t, rfl, by rw [len_of ht]; rfl⟩
theorem run_copy_zero {P : Program} {ats : Array TypeId} {t0 ty : TypeId} {e : TypeId} {i : TypeInfo} {b : Option Addr} {m c m' : Nat} {u : Value} (w : World) (hat : ats[0]? = some t0) (ht : P.underlying t0 = some (.slice e)) (hi : P.info? e = some i)
    (hu : SeqV u m') (h0 : Nat.min m' m = 0) : (Builtin.copy_ ats ty #[.slice b m c, u]).run P w = .ok (.int .i64 0) w := by
  rcases hu with ⟨b', c', rfl⟩ | ⟨s, rfl, hs⟩
  · have h0 : Nat.min m' m = 0 := h0
    have : min m' m = 0 := h0
    have hl : ∀ (ad : Addr), (loadCells ad 0).run P w = .ok #[] w := fun ad => run_loadCells_list (P := P) w ad [] (fun j u hu => by cases hu)
    cases b <;> cases b' <;> simp [Builtin.copy_, hat, run_underlying ht, Builtin.lenOf, this, sizeOf, typeInfo, hi, Builtin.firstCells, hl, storeCells, goInt]
  · have : min s.size m = 0 := by rw [hs]; exact h0
    cases b <;> simp [Builtin.copy_, hat, run_underlying ht, Builtin.lenOf, this, sizeOf, typeInfo, hi, Builtin.firstCells, storeCells, goInt]
theorem opCpy_says {o : Oper} {c : Call} {t e : TypeId} {i : TypeInfo} {x y : Operand} {mx my : MO} {h : H} {k : Kt} (ho : o.op = .call c) (hc : c.callee = .builtin .copy) (ha : c.args.toList = [x, y]) (hat : c.argTypes[0]? = some t) (ht : X.E.und t = some (.slice e)) (hi : X.E.ty e = some i)
    (hx : mo X.ng n x = some mx) (hy : mo X.ng n y = some my) (hk : opCpy mx my fr h k = true) : Says X n fr o h k := by
  have ha : c.args = #[x, y] := by apply Array.toList_inj.1; rw [ha]
  have lx : ∀ t, x = .tmp t → Lop o t := lop (by rw [ho]; simp [Op.operands, Call.operands, ha])
  have ly : ∀ t, y = .tmp t → Lop o t := lop (by rw [ho]; simp [Op.operands, Call.operands, ha])
  unfold opCpy at hk
  simp only [MO.getK_eq] at hk
  obtain ⟨hk, v1⟩ := isSl_V hk
  obtain ⟨hk, v2⟩ := isSeq_V hk
  have fin : k (.int .i64 (.ofNat 0)) h = true → (∀ (σ : Sig) (u v : Value), V σ (mx.val fr) u → V σ (my.val fr) v → ∃ b m c m', u = .slice b m c ∧ SeqV v m' ∧ Nat.min m' m = 0) → Says X n fr o h k := fun hk hz => by
    refine Says.pure ⟨_, hk, fun σ a w hf => ⟨.int .i64 0, ?_, rfl⟩⟩
    obtain ⟨b, m, cc, m', e1, e2, e3⟩ := hz σ _ _ (mo_V hx hf lx) (mo_V hy hf ly)
    simp only [execOp, ho]
    obtain ⟨cs, hcs⟩ := run_call_builtin (a := a) (ty := o.type) hc w X.P
    rw [hcs]
    have hr := run_copy_zero (ty := o.type) (b := b) (c := cc) w hat (X.ok.und ht) (X.ok.ty _ _ hi) e2 e3
    simp only [builtin, ha, List.map_toArray, List.map_cons, List.map_nil, e1]
    exact run_exec_value hr
  rcases zeroL_inv hk with ⟨hk, hz⟩ | hk
  · refine fin hk fun σ u v hu hv => ?_
    obtain ⟨b, m, c, rfl⟩ := v1 hu
    obtain ⟨m', hm'⟩ := v2 hv
    refine ⟨b, m, c, m', rfl, hm', ?_⟩
    rcases zero_V hz hu with ⟨_, _, e⟩ | ⟨_, e, _⟩
    · cases e; simp
    · cases e
  · rcases zeroL_inv hk with ⟨hk, hz⟩ | hk
    · refine fin hk fun σ u v hu hv => ?_
      obtain ⟨b, m, c, rfl⟩ := v1 hu
      rcases zero_V hz hv with ⟨b', c', e⟩ | ⟨s, e, hs⟩
      · exact ⟨b, m, c, 0, rfl, .inl ⟨_, _, e⟩, by simp⟩
      · exact ⟨b, m, c, 0, rfl, .inr ⟨_, e, hs⟩, by simp⟩
    · cases hk

/-! ### bytes as bytes: the array is marked -/
noncomputable def opCvm (x : MO) (fr : Fr) (h : H) (k : Kt) : Bool := x.getK fr fun a => match a with
  | .sl b o len cap ext => getB h b fun bl => chk (!bl.ro) (onCells bl.c fun cs el fz p z => chk p (putB h b (.cells cs el fz false z) fun h => k (.sl b o len cap ext) h))
  | _ => false
theorem opCvm_says {o : Oper} {s e : TypeId} {x : Operand} {m : MO} {h : H} {k : Kt} (ho : o.op = .convert s s x) (hs : X.E.und s = some (.slice e)) (he : X.E.und e = some (.int .u8)) (hm : mo X.ng n x = some m)
    (hk : opCvm m fr h k = true) : Says X n fr o h k := by
  unfold opCvm at hk
  rw [MO.getK_eq] at hk
  have lx : ∀ t, x = .tmp t → Lop o t := lop (by rw [ho]; simp [Op.operands])
  split at hk
  · rename_i b ob len cap ext ht
    obtain ⟨bl, hb, hk⟩ := getB_inv hk
    obtain ⟨hro, hk⟩ := chk_eq hk
    obtain ⟨cs, el, fz, p, z, hc, hk⟩ := onCells_inv hk
    obtain ⟨hp, hk⟩ := chk_eq hk
    subst hp
    have hro : bl.ro = false := by simpa using hro
    refine Says.write (v := .sl b ob len cap ext) (D := dOne b bl) (dOne_sub hb) (by simp [dOne]) hro hk fun σ G a w B hf ho' hext hB hr => ?_
    have hv := mo_V hm hf lx
    rw [ht] at hv
    have hv' := hv
    obtain ⟨B', c, hB', hvv, _⟩ := (hv' : ∃ x c, _)
    rw [hB] at hB'; cases hB'
    rw [hc] at hr
    obtain ⟨C, f, ⟨tq, q1, ct⟩, q2, q3, q4, q5, q6⟩ := hr
    obtain ⟨lo, hi⟩ := f
    have hlo : lo = hi := q5 rfl
    subst hlo
    have hsh : w.shape? B.r = some (tq, C.size) := by simp [World.shape?, q1]
    have hlt := (Array.getElem?_eq_some_iff.1 q1).1
    refine ⟨_, _, w.freeze ⟨B.r, C.size, none⟩ 1, ?_, .inl rfl, hv, ?_, ?_⟩
    · simp only [execOp, ho]
      refine run_exec_value ?_
      rw [hvv]
      simp [convert, run_underlying (X.ok.und hs), run_underlying (X.ok.und he), markStringish, hsh]
    · refine ⟨C, (C.size, C.size + 1), ⟨tq, ?_, ct⟩, q2, q3, fun i h1 h2 h3 => by simp only at h3; omega, fun h => (by cases h), q6⟩
      simp [World.freeze, Array.getElem?_modify, q1]
    · refine ⟨by simp [World.freeze], fun r hr => ?_, by simp [World.freeze], by simp [World.freeze], by simp [World.freeze]⟩
      simp only [World.freeze, Nat.one_ne_zero, if_false]
      rw [Array.getElem?_modify, if_neg (Ne.symm hr)]
  · cases hk

/-! ### room for bytes, whatever they are -/
noncomputable def opMkz (el : Nat) (x : MO) (fr : Fr) (h : H) (k : Kt) : Bool := x.getK fr fun a => match a with
  | .int .i64 (.ofNat m) => chk (Nat.ble m 16777216) (repK (.cons .top .nil) m fun r => newB h (.cells r el 0 true true) fun b h => k (.sl b 0 m m 1) h)
  | _ => false
theorem tops_VL : ∀ {vs : List Value}, VL σ ((AV.cons .top .nil).rep vs.length) vs
  | [] => rfl
  | v :: vs => ⟨v, vs, rfl, trivial, tops_VL⟩
theorem opMkz_says {o : Oper} {c : Call} {f : FuncId} {fn : Func} {t e : TypeId} {x : Operand} {m : MO} {h : H} {k : Kt} (ho : o.op = .call c) (hc : c.callee = .value (.func f)) (ha : c.args.toList = [x]) (h1 : X.P.funcs[f]? = some fn) (h2 : (fn.name == "runtime.NumGoroutine") = false) (h3 : fn.body.isNone = true) (h4 : Extern.findNext fn = none)
    (h5 : Extern.find fn = some (Extern.BytealgMakeNoZero.makeNoZero fn.params #[t])) (ht : X.E.und t = some (.slice e)) (hm : mo X.ng n x = some m) (hk : opMkz e m fr h k = true) : Says X n fr o h k := by
  have ha : c.args = #[x] := by apply Array.toList_inj.1; rw [ha]
  unfold opMkz at hk
  rw [MO.getK_eq] at hk
  split at hk
  · rename_i q hq
    obtain ⟨g1, hk⟩ := chk_eq hk
    rw [ble_true] at g1
    have hk := repK_inv hk
    refine Says.alloc (v := fun b => .sl b 0 q q 1) hk fun σ G a w hf hok hn => ?_
    have hv := mo_V hm hf (lop (by rw [ho]; simp [Op.operands, Call.operands, ha]))
    rw [hq] at hv
    obtain ⟨cs, r1, r2, r3⟩ := Lib.run_makeNoZero (P := X.P) w fn.params t e (X.ok.und ht) q (by omega)
    refine ⟨_, _, w.drew.drew, .cells cs e, cs.size, rfl, rfl, rfl, rfl, ?_, .inl rfl, fun τ _ hle hbk => ⟨⟨_, cs.size, hbk, rfl, Nat.le_refl _, r2, fun h => (by cases h), fun _ => (by simp only; omega)⟩, fun w' hw' => ?_⟩⟩
    · simp only [execOp, ho]
      rw [run_call_fn hc, run_callFunc_extern h1 h2 h3 h4 h5]
      simp only [ha, List.map_toArray, List.map_cons, List.map_nil, hv.int_inv]
      have r1 : (Extern.BytealgMakeNoZero.makeNoZero fn.params #[t] #[.int .i64 (Int.ofNat q)]).run X.P w = _ := r1
      rw [r1]; rfl
    · refine ⟨cs, (0, 0), .mk hw', by simp, ⟨cs.toList.take q, ?_, ?_, fun i v hi => ?_⟩, fun i _ hi h => by simp only at h; omega, fun _ => rfl, fun _ => rfl⟩
      · have hl : (cs.toList.take q).length = q := by rw [List.length_take, Array.length_toList]; omega
        have := tops_VL (σ := τ) (vs := cs.toList.take q)
        rw [hl] at this
        exact this
      · rw [List.length_take, Array.length_toList]; simp only; omega
      · rw [List.getElem?_take] at hi
        split at hi
        · rw [Array.getElem?_toList] at hi
          simpa using hi
        · cases hi
  · cases hk

end Go.Ev
end

section
set_option linter.unusedVariables false
set_option linter.unusedSimpArgs false
namespace Go.Ev

variable {X : Cx} {σ : Sig} {n : Nat} {fr : Fr} {a : Act} {w : World} {L : Tmp → Prop}

/-! ### any operation but a call -/
/-- what the calls come to: a function's, at a row of values; a loop's round, by its record; a deferred call -/
structure Cl where
  f : Nat → AV → H → Kt → Bool
  y : Nat → AV → H → Kt → Bool
  d : Nat → AV → H → (H → Bool) → Bool
noncomputable def callV (c : Cl) (v l : AV) (h : H) (k : Kt) : Bool := match v with
  | .fn f p q => rappK l q fun l => rappK p l fun l => c.f f l h k
  | .yld b => c.y b l h k
  | _ => false
noncomputable def findT (tb : List (Nat × Nat × Nat)) (t : Nat) (k : Nat → Nat → Bool) : Bool := List.rec (motive := fun _ => Bool) false (fun p _ ih => sel (Nat.beq p.1 t) (k p.2.1 p.2.2) ih) tb
noncomputable def recvK (q : Nat) (x : AV) (k : AV → Bool) : Bool := sel (Nat.beq q 0) (k x) (match x with | .agg (.cons y l) => rlenK l 0 fun m => chk (Nat.beq (Nat.succ m) q) (k y) | _ => false)
noncomputable def callI (c : Cl) (tb : List (Nat × Nat × Nat)) (v l : AV) (h : H) (k : Kt) : Bool := match v with
  | .ifc t x => findT tb t fun f q => recvK q x fun x => c.f f (.cons x l) h k
  | _ => false
noncomputable def opCall (c : Cl) (f : Nat) (args : List MO) (fr : Fr) (h : H) (k : Kt) : Bool := rowK fr args fun l => c.f f l h k
noncomputable def opCallv (c : Cl) (x : MO) (args : List MO) (fr : Fr) (h : H) (k : Kt) : Bool := x.getK fr fun v => rowK fr args fun l => callV c v l h k
noncomputable def opInv (c : Cl) (x : MO) (tb : List (Nat × Nat × Nat)) (args : List MO) (fr : Fr) (h : H) (k : Kt) : Bool := x.getK fr fun v => rowK fr args fun l => callI c tb v l h k
noncomputable def opK (fc : List Fact) (c : Cl) (m : MOp) : Fr → H → Kt → Bool :=
  MOp.rec (motive := fun _ => Fr → H → Kt → Bool) opMv opPick opAlloc opBox opBuild opBsl opLd1 opLdn opStn opNilc (opBin fc) opEqv opNot (opNeg fc) (opCvi fc) opCvsb opCvbs opCvs opCvpu opCvup opSsd opUst opMkif opMkfn opMkmap opMksl opSlstr opSlsl
    opFad opFld opFldn opIad opIada opIxs opIxa opLook opMup opRng (opNxt fc) opEnt opTas opExt opLen opCap opApp (opMin fc) (opMax fc) opXt (opCall c) (opCallv c) (opInv c) (fun _ _ _ _ _ => false) (fun _ _ _ _ => false) (fun _ _ _ => false) (opCpl fc) opCpy opCvm opMkz m

theorem cbin_says {o : Oper} {b : BinOp} {t t' : TypeId} {x y : Operand} {m : MOp} {h : H} {k : Kt} (ho : o.op = .binOp b t x y t') (hc : cbin X.E X.ng n b t x y = some m) {c' : Cl} (hn : m.isCall = false) (hk : opK X.fc c' m fr h k = true) : Says X n fr o h k := by
  unfold cbin at hc
  simp only [Option.bind_eq_bind, Option.bind_eq_some_iff, Option.pure_def] at hc
  obtain ⟨d, hd, hc⟩ := hc
  have bin : ∀ mx my, mo X.ng n x = some mx → mo X.ng n y = some my → m = .bin b mx my → Says X n fr o h k := by
    intro mx my hx hy he
    subst he
    exact Says.pure (opBin_inv ho hx hy hk)
  have eqc : ∀ neg : Bool, b = (if neg then .neq else .eql) → ceq X.E X.ng n neg t x y = some m → Says X n fr o h k := by
    intro neg hb hc
    unfold ceq at hc
    simp only [Option.bind_eq_bind, Option.bind_eq_some_iff, Option.pure_def] at hc
    obtain ⟨d', hd', mx, hx, my, hy, hc⟩ := hc
    have fin : ∀ kd : EK, kd.fits X.E d' → m = .eqv neg mx my (isConst x || isConst y) kd → Says X n fr o h k := by
      intro kd hkd he
      subst he
      exact (opEqv_saysF (by rw [ho, hb]) hd' hkd (by simp) hx hy hk).says
    split at hc
    · cases hc; exact fin .b rfl rfl
    · cases hc; exact fin .s ⟨_, rfl⟩ rfl
    · cases hc; exact fin .m ⟨_, _, rfl⟩ rfl
    · cases hc; exact fin .f ⟨_, _, _, rfl⟩ rfl
    · cases hc; exact fin .i ⟨_, rfl⟩ rfl
    · simp only [Option.bind_eq_some_iff] at hc
      obtain ⟨i, hi, hc⟩ := hc
      cases hc
      by_cases h0 : 0 < i.size
      · exact fin .p ⟨_, i, rfl, hi, h0⟩ (by rw [if_pos h0])
      · exact fin .z ⟨_, rfl⟩ (by rw [if_neg h0])
    · cases hc
  split at hc
  · simp only [Option.bind_eq_some_iff, Option.some.injEq] at hc
    obtain ⟨mx, hx, my, hy, he⟩ := hc
    exact bin mx my hx hy he.symm
  · simp only [Option.bind_eq_some_iff, Option.some.injEq] at hc
    obtain ⟨mx, hx, my, hy, he⟩ := hc
    exact bin mx my hx hy he.symm
  · split at hc
    · exact eqc false rfl hc
    · exact eqc true rfl hc
    · cases hc

theorem cconv_says {o : Oper} {s d : TypeId} {x : Operand} {m : MOp} {h : H} {k : Kt} (ho : o.op = .convert s d x) (hc : cconv X.E X.ng n s d x = some m) {c' : Cl} (hn : m.isCall = false) (hk : opK X.fc c' m fr h k = true) : Says X n fr o h k := by
  unfold cconv at hc
  simp only [Option.bind_eq_bind, Option.bind_eq_some_iff, Option.pure_def] at hc
  obtain ⟨ds, hs, dd, hd, mx, hx, hc⟩ := hc
  split at hc
  · cases hc; exact Says.pure (opCvi_inv ho hs hd hx hk)
  · cases hc; exact Says.pure (opCvs_inv ho hs hd hx hk)
  · simp only [Option.bind_eq_some_iff] at hc
    obtain ⟨de, he, hc⟩ := hc
    split at hc
    · cases hc; exact opCvsb_says ho hs hd he hx hk
    · cases hc
  · simp only [Option.bind_eq_some_iff] at hc
    obtain ⟨de, he, hc⟩ := hc
    split at hc
    · cases hc; exact (opCvbs_saysF ho hs hd he hx hk).says
    · cases hc
  · simp only [Option.bind_eq_some_iff] at hc
    obtain ⟨de, he, hc⟩ := hc
    split at hc
    · split at hc
      · rename_i heq
        cases hc
        subst heq
        exact opCvm_says ho hs he hx hk
      · cases hc
    · cases hc
  · simp only [Option.bind_eq_some_iff] at hc
    obtain ⟨i, hi, hc⟩ := hc
    split at hc
    · rename_i h0; cases hc; exact opCvpu_says ho hs hd hi h0 hx hk
    · cases hc
  · simp only [Option.bind_eq_some_iff] at hc
    obtain ⟨i, hi, hc⟩ := hc
    split at hc
    · rename_i h0; cases hc; exact opCvup_says ho hs hd hi h0 hx hk
    · cases hc
  · cases hc

theorem ccall_says {o : Oper} {c : Call} {m : MOp} {h : H} {k : Kt} (ho : o.op = .call c) (hc : ccall X.E X.ng n c = some m) {c' : Cl} (hn : m.isCall = false) (hk : opK X.fc c' m fr h k = true) : Says X n fr o h k := by
  unfold ccall at hc
  split at hc
  · rename_i b hb
    unfold cbuiltin at hc
    split at hc
    · rename_i x ha
      simp only [Option.bind_eq_bind, Option.bind_eq_some_iff, Option.pure_def] at hc
      obtain ⟨t, hat, d, hd, hc⟩ := hc
      split at hc
      · simp only [Option.bind_eq_some_iff, Option.some.injEq] at hc
        obtain ⟨mx, hx, rfl⟩ := hc
        exact opLen_says ho hb ha hat hd (.inl ⟨rfl, rfl⟩) hx hk
      · simp only [Option.bind_eq_some_iff, Option.some.injEq] at hc
        obtain ⟨mx, hx, rfl⟩ := hc
        exact opLen_says ho hb ha hat hd (.inr (.inl ⟨⟨_, rfl⟩, rfl⟩)) hx hk
      · simp only [Option.bind_eq_some_iff, Option.some.injEq] at hc
        obtain ⟨mx, hx, rfl⟩ := hc
        exact opLen_says ho hb ha hat hd (.inr (.inr ⟨⟨_, _, rfl⟩, rfl⟩)) hx hk
      · cases hc
    · rename_i x ha
      simp only [Option.bind_eq_bind, Option.bind_eq_some_iff, Option.pure_def] at hc
      obtain ⟨t, hat, d, hd, hc⟩ := hc
      split at hc
      · simp only [Option.bind_eq_some_iff, Option.some.injEq] at hc
        obtain ⟨mx, hx, rfl⟩ := hc
        exact Says.pure (opCap_inv ho hb ha hat hd hx hk)
      · cases hc
    · rename_i s x ha
      simp only [Option.bind_eq_bind, Option.bind_eq_some_iff, Option.pure_def] at hc
      obtain ⟨t, hat, d, hd, hc⟩ := hc
      split at hc
      · simp only [Option.bind_eq_some_iff] at hc
        obtain ⟨t2, hat2, d2, hd2, i, hi, z, hz, hc⟩ := hc
        split at hc
        · split at hc
          · rename_i hsz
            simp only [Option.bind_eq_some_iff, Option.some.injEq] at hc
            obtain ⟨ms, hs, mx, hx, rfl⟩ := hc
            exact opApp_says ho hb ha hat hat2 hd hd2 (.inl ⟨_, rfl⟩) hi hz hsz.1 hsz.2 hs hx hk
          · cases hc
        · split at hc
          · rename_i hsz
            simp only [Option.bind_eq_some_iff, Option.some.injEq] at hc
            obtain ⟨ms, hs, mx, hx, rfl⟩ := hc
            exact opApp_says ho hb ha hat hat2 hd hd2 (.inr rfl) hi hz hsz.1 hsz.2 hs hx hk
          · cases hc
        · cases hc
      · cases hc
    · rename_i x y ha
      simp only [Option.bind_eq_bind, Option.bind_eq_some_iff, Option.pure_def, Option.some.injEq] at hc
      obtain ⟨mx, hx, my, hy, rfl⟩ := hc
      exact Says.pure (opMin_inv ho hb ha hx hy hk)
    · rename_i x y ha
      simp only [Option.bind_eq_bind, Option.bind_eq_some_iff, Option.pure_def, Option.some.injEq] at hc
      obtain ⟨mx, hx, my, hy, rfl⟩ := hc
      exact Says.pure (opMax_inv ho hb ha hx hy hk)
    · cases hc; cases hk
    · rename_i x y ha
      simp only [Option.bind_eq_bind, Option.bind_eq_some_iff, Option.pure_def] at hc
      obtain ⟨t, hat, d, hd, hc⟩ := hc
      split at hc
      · simp only [Option.bind_eq_some_iff, Option.some.injEq] at hc
        obtain ⟨i, hi, mx, hx, my, hy, rfl⟩ := hc
        exact opCpy_says ho hb ha hat hd hi hx hy hk
      · cases hc
    · rename_i x ha
      simp only [Option.bind_eq_bind, Option.bind_eq_some_iff, Option.pure_def, Option.some.injEq] at hc
      obtain ⟨mx, hx, rfl⟩ := hc
      exact opSsd_says ho hb ha hx hk
    · rename_i x l ha
      simp only [Option.bind_eq_bind, Option.bind_eq_some_iff, Option.pure_def] at hc
      obtain ⟨t, hat, d, hd, hc⟩ := hc
      split at hc
      · simp only [Option.bind_eq_some_iff] at hc
        obtain ⟨i, hi, hc⟩ := hc
        split at hc
        · rename_i h1
          simp only [Option.bind_eq_some_iff, Option.some.injEq] at hc
          obtain ⟨mx, hx, ml, hl, rfl⟩ := hc
          exact opUst_says ho hb ha hat hd hi h1 hx hl hk
        · cases hc
      · cases hc
    · cases hc
  · rename_i f hf
    split at hc
    · rename_i hmz
      split at hc
      · rename_i x ha
        simp only [Option.bind_eq_bind, Option.bind_eq_some_iff, Option.pure_def] at hc
        obtain ⟨d, hd, hc⟩ := hc
        split at hc
        · simp only [Option.bind_eq_some_iff, Option.some.injEq] at hc
          obtain ⟨mx, hx, rfl⟩ := hc
          obtain ⟨fn, h1, h2, h3, h4, h5⟩ := X.ok.mzok f hmz
          exact opMkz_says ho hf ha h1 h2 h3 h4 h5 hd hx hk
        · cases hc
      · cases hc
    · simp only [Option.bind_eq_bind, Option.bind_eq_some_iff, Option.pure_def] at hc
      obtain ⟨q, hq, l, hl, hc⟩ := hc
      split at hc
      · cases hc; cases hn
      · cases hc; exact opXt_says ho hf hq hl hk
  · simp only [Option.bind_eq_bind, Option.bind_eq_some_iff, Option.pure_def, Option.some.injEq] at hc
    obtain ⟨_, _, _, _, rfl⟩ := hc; cases hn
  · simp only [Option.bind_eq_bind, Option.bind_eq_some_iff, Option.pure_def, Option.some.injEq] at hc
    obtain ⟨_, _, _, _, rfl⟩ := hc; cases hn

theorem opK_says {o : Oper} {m : MOp} {h : H} {k : Kt} (hc : cop X.E X.ng n o = some m) {c' : Cl} (hn : m.isCall = false) (hk : opK X.fc c' m fr h k = true) : Says X n fr o h k := by
  unfold cop at hc
  split at hc
  case h_1 x ho =>
    simp only [Option.bind_eq_bind, Option.bind_eq_some_iff, Option.pure_def, Option.some.injEq] at hc
    obtain ⟨mx, hx, rfl⟩ := hc
    exact Says.pure (opMv_inv (x := x) (fun ρ => by simp only [execOp, ho]) (by rw [ho]; simp [Op.operands]) hx hk)
  case h_2 x ho =>
    simp only [Option.bind_eq_bind, Option.bind_eq_some_iff, Option.pure_def, Option.some.injEq] at hc
    obtain ⟨mx, hx, rfl⟩ := hc
    exact Says.pure (opMv_inv (x := x) (fun ρ => by simp only [execOp, ho]) (by rw [ho]; simp [Op.operands]) hx hk)
  case h_3 c x y ho =>
    simp only [Option.bind_eq_bind, Option.bind_eq_some_iff, Option.pure_def, Option.some.injEq] at hc
    obtain ⟨mc, h1, mx, h2, my, h3, rfl⟩ := hc
    exact Says.pure (opPick_inv ho h1 h2 h3 hk)
  case h_4 e ho =>
    simp only [Option.bind_eq_bind, Option.bind_eq_some_iff, Option.pure_def, Option.some.injEq] at hc
    obtain ⟨i, hi, z, hz, rfl⟩ := hc
    exact (opAlloc_saysF ho hi hz hk).says
  case h_5 e x ho =>
    simp only [Option.bind_eq_bind, Option.bind_eq_some_iff, Option.pure_def, Option.some.injEq] at hc
    obtain ⟨mx, hx, rfl⟩ := hc
    exact (opBox_saysF ho hx hk).says
  case h_6 t ps ho =>
    simp only [Option.bind_eq_bind, Option.bind_eq_some_iff, Option.pure_def] at hc
    obtain ⟨i, hi, zv, hzv, hc⟩ := hc
    split at hc
    · simp only [Option.bind_eq_some_iff] at hc
      obtain ⟨z, hz, d, hd, hc⟩ := hc
      split at hc
      · split at hc
        · rename_i hall
          simp only [Option.bind_eq_some_iff, Option.some.injEq] at hc
          obtain ⟨ms, hms, rfl⟩ := hc
          exact Says.pure (opBuild_struct ho hi hzv hz hd hall hms hk)
        · cases hc
      · simp only [Option.bind_eq_some_iff, Option.some.injEq] at hc
        obtain ⟨j, hj, ms, hms, rfl⟩ := hc
        exact Says.pure (opBuild_array ho hi hzv hz hd hj hms hk)
      · cases hc
    · cases hc
  case h_7 t len ps ho =>
    simp only [Option.bind_eq_bind, Option.bind_eq_some_iff, Option.pure_def] at hc
    obtain ⟨d, hd, hc⟩ := hc
    split at hc
    · simp only [Option.bind_eq_some_iff] at hc
      obtain ⟨i, hi, z, hz, hc⟩ := hc
      split at hc
      · rename_i hsz
        simp only [Option.bind_eq_some_iff, Option.some.injEq] at hc
        obtain ⟨ms, hms, rfl⟩ := hc
        exact (opBsl_saysF ho hd hi hz hsz.1 hsz.2 hms hk).says
      · cases hc
    · cases hc
  case h_8 t x ho =>
    simp only [Option.bind_eq_bind, Option.bind_eq_some_iff, Option.pure_def] at hc
    obtain ⟨d, hd, hc⟩ := hc
    split at hc
    · rename_i hag
      simp only [Option.bind_eq_some_iff, Option.some.injEq] at hc
      obtain ⟨mx, hx, i, hi, rfl⟩ := hc
      exact (opLdn_saysF ho hd hag hi hx hk).says
    · rename_i hag
      simp only [Option.bind_eq_some_iff, Option.some.injEq] at hc
      obtain ⟨mx, hx, rfl⟩ := hc
      exact (opLd1_saysF ho hd (by simpa using hag) hx hk).says
  case h_9 t x v ho =>
    simp only [Option.bind_eq_bind, Option.bind_eq_some_iff, Option.pure_def, Option.some.injEq] at hc
    obtain ⟨i, hi, mx, hx, mv, hv, rfl⟩ := hc
    exact opStn_says ho hi hx hv hk
  case h_10 x ho =>
    simp only [Option.bind_eq_bind, Option.bind_eq_some_iff, Option.pure_def, Option.some.injEq] at hc
    obtain ⟨mx, hx, rfl⟩ := hc
    exact Says.pure (opNilc_inv ho hx hk)
  case h_11 b t x y t' ho => exact cbin_says ho hc hn hk
  case h_12 u t x ho =>
    split at hc
    · simp only [Option.bind_eq_bind, Option.bind_eq_some_iff, Option.pure_def, Option.some.injEq] at hc
      obtain ⟨mx, hx, rfl⟩ := hc
      exact Says.pure (opNot_inv ho hx hk)
    · simp only [Option.bind_eq_bind, Option.bind_eq_some_iff, Option.pure_def, Option.some.injEq] at hc
      obtain ⟨mx, hx, rfl⟩ := hc
      exact Says.pure (opNeg_inv ho hx hk)
    · simp only [Option.bind_eq_bind, Option.bind_eq_some_iff, Option.pure_def, Option.some.injEq] at hc
      obtain ⟨mx, hx, rfl⟩ := hc
      exact Says.pure (opCpl_inv ho hx hk)
    · cases hc
  case h_13 s d x ho => exact cconv_says ho hc hn hk
  case h_14 t x ho =>
    simp only [Option.bind_eq_bind, Option.bind_eq_some_iff, Option.pure_def] at hc
    obtain ⟨d, hd, hc⟩ := hc
    split at hc
    · cases hc
    · rename_i hni
      simp only [Option.bind_eq_some_iff, Option.some.injEq] at hc
      obtain ⟨mx, hx, rfl⟩ := hc
      exact Says.pure (opMkif_inv ho hd hni hx hk)
  case h_15 f p q ho =>
    simp only [Option.bind_eq_bind, Option.bind_eq_some_iff, Option.pure_def, Option.some.injEq] at hc
    obtain ⟨mp, hp, mq, hq, rfl⟩ := hc
    exact Says.pure (opMkfn_inv ho hp hq hk)
  case h_16 t ho =>
    cases hc
    exact (opMkmap_saysF ho hk).says
  case h_17 t l c ho =>
    simp only [Option.bind_eq_bind, Option.bind_eq_some_iff, Option.pure_def] at hc
    obtain ⟨d, hd, hc⟩ := hc
    split at hc
    · simp only [Option.bind_eq_some_iff] at hc
      obtain ⟨i, hi, z, hz, hc⟩ := hc
      split at hc
      · rename_i hsz
        simp only [Option.bind_eq_some_iff, Option.some.injEq] at hc
        obtain ⟨ml, hl, mc, hcc, rfl⟩ := hc
        exact (opMksl_saysF ho hd hi hz hsz.1 hsz.2 hl hcc hk).says
      · cases hc
    · cases hc
  case h_18 t x lo hi mx ho =>
    simp only [Option.bind_eq_bind, Option.bind_eq_some_iff, Option.pure_def] at hc
    obtain ⟨d, hd, hc⟩ := hc
    split at hc
    · split at hc
      · rename_i hnone
        simp only [Option.bind_eq_some_iff, Option.some.injEq] at hc
        obtain ⟨m1, h1, m2, h2, m3, h3, rfl⟩ := hc
        have : mx = none := by cases mx <;> simp_all
        subst this
        exact Says.pure (opSlstr_inv ho hd h1 h2 h3 hk)
      · cases hc
    · simp only [Option.bind_eq_some_iff, Option.some.injEq] at hc
      obtain ⟨i, hi', m1, h1, m2, h2, m3, h3, m4, h4, rfl⟩ := hc
      exact Says.pure (opSlsl_inv ho hd hi' h1 h2 h3 h4 hk)
    · cases hc
  case h_19 t x f ho =>
    unfold cfield at hc
    simp only [Option.bind_eq_bind, Option.bind_eq_some_iff, Option.pure_def] at hc
    obtain ⟨⟨fd, i, d⟩, ⟨dt, hdt, hq⟩, hc⟩ := hc
    split at hq
    · simp only [Option.bind_eq_some_iff, Option.some.injEq, Prod.mk.injEq] at hq
      obtain ⟨fd', hfd, i', hi, d', hd, rfl, rfl, rfl⟩ := hq
      simp only at hc
      split at hc
      · rename_i h0
        simp only [Option.bind_eq_some_iff, Option.some.injEq] at hc
        obtain ⟨mx, hx, rfl⟩ := hc
        exact Says.pure (opFad_inv ho hdt hfd hi h0 hx hk)
      · cases hc
    · cases hq
  case h_20 t x f ho =>
    unfold cfield at hc
    simp only [Option.bind_eq_bind, Option.bind_eq_some_iff, Option.pure_def] at hc
    obtain ⟨⟨fd, i, d⟩, ⟨dt, hdt, hq⟩, hc⟩ := hc
    split at hq
    · simp only [Option.bind_eq_some_iff, Option.some.injEq, Prod.mk.injEq] at hq
      obtain ⟨fd', hfd, i', hi, d', hd, rfl, rfl, rfl⟩ := hq
      simp only at hc
      split at hc
      · rename_i hag
        simp only [Option.bind_eq_some_iff, Option.some.injEq] at hc
        obtain ⟨mx, hx, rfl⟩ := hc
        exact Says.pure (opFldn_inv ho hdt hfd hd hi hag hx hk)
      · rename_i hag
        simp only [Option.bind_eq_some_iff, Option.some.injEq] at hc
        obtain ⟨mx, hx, rfl⟩ := hc
        exact Says.pure (opFld_inv ho hdt hfd hd (by simpa using hag) hx hk)
    · cases hq
  case h_21 t x i ho =>
    simp only [Option.bind_eq_bind, Option.bind_eq_some_iff, Option.pure_def] at hc
    obtain ⟨d, hd, hc⟩ := hc
    split at hc
    · simp only [Option.bind_eq_some_iff, Option.some.injEq] at hc
      obtain ⟨j, hj, mx, hx, mi, hi, rfl⟩ := hc
      exact Says.pure (opIad_inv ho hd hj hx hi hk)
    · simp only [Option.bind_eq_some_iff, Option.some.injEq] at hc
      obtain ⟨j, hj, mx, hx, mi, hi, rfl⟩ := hc
      exact Says.pure (opIada_inv ho hd hj hx hi hk)
    · cases hc
  case h_22 t x i ho =>
    simp only [Option.bind_eq_bind, Option.bind_eq_some_iff, Option.pure_def] at hc
    obtain ⟨d, hd, hc⟩ := hc
    split at hc
    · simp only [Option.bind_eq_some_iff, Option.some.injEq] at hc
      obtain ⟨mx, hx, mi, hi, rfl⟩ := hc
      exact Says.pure (opIxs_inv ho hd hx hi hk)
    · simp only [Option.bind_eq_some_iff] at hc
      obtain ⟨j, hj, de, hde, hc⟩ := hc
      split at hc
      · rename_i hsz
        simp only [Option.bind_eq_some_iff, Option.some.injEq] at hc
        obtain ⟨mx, hx, mi, hi, rfl⟩ := hc
        exact Says.pure (opIxa_inv ho hd hj hsz.2 hde hsz.1 hx hi hk)
      · cases hc
    · cases hc
  case h_23 t x i ok ho =>
    simp only [Option.bind_eq_bind, Option.bind_eq_some_iff, Option.pure_def] at hc
    obtain ⟨d, hd, hc⟩ := hc
    split at hc
    · simp only [Option.bind_eq_some_iff, Option.some.injEq] at hc
      obtain ⟨j, hj, z, hz, kd, hkd, cz, hcz, mx, hx, mi, hi, rfl⟩ := hc
      exact (opLook_saysF ho hd hj hz hcz hkd hx hi hk).says
    · cases hc
  case h_24 t m k v ho =>
    simp only [Option.bind_eq_bind, Option.bind_eq_some_iff, Option.pure_def] at hc
    obtain ⟨d, hd, hc⟩ := hc
    split at hc
    · simp only [Option.bind_eq_some_iff, Option.some.injEq] at hc
      obtain ⟨kd, hkd, m1, h1, m2, h2, m3, h3, rfl⟩ := hc
      exact opMup_says (.inl ho) hd hkd h1 h2 h3 hk
    · cases hc
  case h_25 t m k v ho =>
    simp only [Option.bind_eq_bind, Option.bind_eq_some_iff, Option.pure_def] at hc
    obtain ⟨d, hd, hc⟩ := hc
    split at hc
    · simp only [Option.bind_eq_some_iff, Option.some.injEq] at hc
      obtain ⟨kd, hkd, m1, h1, m2, h2, m3, h3, rfl⟩ := hc
      exact opMup_says (.inr ho) hd hkd h1 h2 h3 hk
    · cases hc
  case h_26 t x ho =>
    simp only [Option.bind_eq_bind, Option.bind_eq_some_iff, Option.pure_def] at hc
    obtain ⟨d, hd, hc⟩ := hc
    split at hc
    · simp only [Option.bind_eq_some_iff, Option.some.injEq] at hc
      obtain ⟨mx, hx, rfl⟩ := hc
      exact opRng_str ho hd hx hk
    · simp only [Option.bind_eq_some_iff, Option.some.injEq] at hc
      obtain ⟨mx, hx, rfl⟩ := hc
      exact opRng_map ho hd hx hk
    · cases hc
  case h_27 it s ho =>
    simp only [Option.bind_eq_bind, Option.bind_eq_some_iff, Option.pure_def, Option.some.injEq] at hc
    obtain ⟨mx, hx, rfl⟩ := hc
    cases s
    · exact opNxt_map ho hx hk
    · exact opNxt_str ho hx hk
  case h_28 it ho =>
    simp only [Option.bind_eq_bind, Option.bind_eq_some_iff, Option.pure_def, Option.some.injEq] at hc
    obtain ⟨mx, hx, rfl⟩ := hc
    exact opEnt_says ho hx hk
  case h_29 x xt t ok ho =>
    simp only [Option.bind_eq_bind, Option.bind_eq_some_iff, Option.pure_def] at hc
    obtain ⟨i, hi, z, hz, d, hd, hc⟩ := hc
    split at hc
    · cases hc
    · rename_i hni
      simp only [Option.bind_eq_some_iff, Option.some.injEq] at hc
      obtain ⟨mx, hx, cz, hcz, rfl⟩ := hc
      exact opTas_says ho hd hni hi hz hcz hx hk
  case h_30 x i ho =>
    simp only [Option.bind_eq_bind, Option.bind_eq_some_iff, Option.pure_def, Option.some.injEq] at hc
    obtain ⟨mx, hx, rfl⟩ := hc
    exact Says.pure (opExt_inv ho hx hk)
  case h_31 c ho => exact ccall_says ho hc hn hk
  case h_32 c ho =>
    split at hc
    · simp only [Option.bind_eq_bind, Option.bind_eq_some_iff, Option.pure_def, Option.some.injEq] at hc
      obtain ⟨_, _, _, _, rfl⟩ := hc; cases hk
    · cases hc
  case h_33 x ho =>
    simp only [Option.bind_eq_bind, Option.bind_eq_some_iff, Option.pure_def, Option.some.injEq] at hc
    obtain ⟨_, _, rfl⟩ := hc; cases hk
  case h_34 => cases hc

end Go.Ev
end
