/- Contracts with the known answer. -/
import Derived.Test.YtjbckgabnkljlaaGreatDoorKnown
import Derived.Test.YtjbckgabnkljlaaGreatDoorCtx

section
set_option linter.unusedVariables false
set_option maxHeartbeats 0
set_option maxRecDepth 100000
namespace Go.Ev.Cc
open Go.Proofs
theorem fact_same {σ τ : Sig} (hs : τ.sym = σ.sym) {e : Fact} {i : Nat} (hv : e.v = .sym i) (h : FactOK σ e) : FactOK τ e := by
  have hV : ∀ u, V σ e.v u → V τ e.v u := fun u hu => by
    rw [hv] at hu ⊢
    have hu : u = σ.sym.val i := hu
    show u = τ.sym.val i
    rw [hs]; exact hu
  intro k i' k' j hx hy
  have := h k i' k' j (FA.mono hs hx) (FA.mono hs hy)
  revert this
  cases e.o with
  | bin o => exact fun ⟨u, h1, h2⟩ => ⟨u, hV _ h1, h2⟩
  | itoa => exact fun ⟨h1, h2, h3, h4⟩ => ⟨h1, h2, h3, hV _ h4⟩
  | _ => exact fun h => hV _ h
/-- a call that only new blocks come of may be used wherever its facts hold -/
theorem quietF {X : Cx} {fd fc : List Fact} {f : Nat} {l v : AV} {h0 h1 : H} (hc : CallD (X.withF fd) f l h0 v h1) (hro : AllRo h0) (hcells : ∀ b x, h0.get b = some x → b < h0.next ∧ ∃ cs el fz p z, x.c = .cells cs el fz p z ∧ bndV h0.next cs = true) (hng : X.ng ≤ h0.next)
    (hfd : ∀ e ∈ fd, e ∈ fc ∧ ∃ i, e.v = .sym i) (hl : bndV h0.next l = true)
    (hv : ∀ {σ τ : Sig} {x : Value}, V σ v x → V τ v x) {h : H} (hext : ∀ b x, h0.get b = some x → h.get b = some x) : CallD (X.withF fc) f l h v h := by
  intro σ G w vs hvs ho he hfr
  let σ0 : Sig := ⟨fun b => if b < h0.next then σ.bk b else none, σ.sym⟩
  have hle0 : ∀ b x, σ0.bk b = some x → σ.bk b = some x := by
    intro b x hx
    have hx : (if b < h0.next then σ.bk b else none) = some x := hx
    split at hx
    · exact hx
    · cases hx
  have hle : σ0.le σ := ⟨hle0, rfl⟩
  have hbk : ∀ b, b < h0.next → σ.bk b = σ0.bk b := fun b hb => (if_pos hb).symm
  have ok0 : Ok (X.withF fd) σ0 h0.get w := by
    refine ⟨fun c x hx => ?_, fun c c' C C' x x' hne hx hx' hC hC' => ?_, ⟨fun g hg => ?_, fun e he' => ?_, fun g hg B hB => ?_⟩⟩
    · obtain ⟨hlt, cs, el, fz, p, z, e, hbnd⟩ := hcells c x hx
      obtain ⟨B, hB, hr⟩ := ho.rel c x (he c x (hext c x hx))
      rw [RelC.withF, e] at hr
      rw [e]
      exact ⟨B, by rw [← hbk c hlt]; exact hB, RelC.withF.2 (hr.back hle hbk hbnd)⟩
    · exact ho.sep c c' C C' x x' hne (he c x (hext c x hx)) (he c' x' (hext c' x' hx')) (hle.1 _ _ hC) (hle.1 _ _ hC')
    · obtain ⟨B, h1, h2⟩ := ho.sane.glob g hg
      exact ⟨B, by rw [← hbk g (Nat.lt_of_lt_of_le hg hng)]; exact h1, h2⟩
    · obtain ⟨h1, i, h2⟩ := hfd e he'
      exact fact_same (σ := σ) (τ := σ0) rfl h2 (ho.sane.fact e h1)
    · exact ho.sane.gsz g hg B (hle0 _ _ hB)
  obtain ⟨c1, c2⟩ := hc σ0 h0.get w vs ((R.back hle hbk l hl).2 _ hvs) ok0 (Ext.refl _) fun b hb _ => if_neg (by omega)
  refine ⟨c1, CallsIn.mono c2 fun e w' he' => ?_⟩
  cases e with
  | panicked c => exact he'.elim
  | outgrown => exact he'.elim
  | returned x =>
    obtain ⟨τ, hV, hp⟩ := he'
    have hno : ∀ r, ¬ Owned σ0 h0.get r := by
      rintro r ⟨b, x, B, hx, hxr, _⟩
      rw [hro b x hx] at hxr; cases hxr
    have hkeep : ∀ r, r < w.heap.size → w'.heap[r]? = w.heap[r]? := fun r hr => hp.frame r hr (hno r)
    refine ⟨σ, hv hV, ?_⟩
    rw [app_self]
    refine ⟨.refl _, fun _ _ => rfl, ⟨fun c x hx => ?_, ho.sep, ho.sane⟩, hp.os, hp.tape, hp.output, hp.size, fun r hr _ => hkeep r hr, fun r h => .inl h⟩
    obtain ⟨B, hB, hr⟩ := ho.rel c x hx
    exact ⟨B, hB, hr.turn (hkeep _ hr.lt)⟩
theorem known_says : ∃ h', CallD (X.withF [fM]) 4 .nil h0 (.bool true) h' := by
  obtain ⟨v, h', _, hv, hc⟩ := run_ok (X := X.withF [fM]) (tbokF _) (px1_ok [fM]) known_run
  rw [isTrue_eq hv] at hc
  exact ⟨h', hc⟩
/-- .. and of known -/
noncomputable def px2 (fc : List Fact) : Px := fun f l h ks kn => sel (Nat.beq f 4) (match l with | .nil => sel (subT h 0 1 h0.t) (ks (.bool true) h) kn | _ => kn) (px1 fc f l h ks kn)
theorem px2_ok {fc : List Fact} (hf : fM ∈ fc) : PxOK (X.withF fc) (px2 fc) := by
  intro f l h ks kn hk
  unfold px2 at hk
  rcases sel_eq hk with ⟨h1, hk1⟩ | ⟨_, hk1⟩
  · have e := Nat.eq_of_beq_eq_true h1
    subst e
    split at hk1
    · rcases sel_eq hk1 with ⟨h2, hk2⟩ | ⟨_, hk2⟩
      · obtain ⟨h', hc⟩ := known_says
        have hr : roT h0.next 0 1 h0.t = true := by kernel_rfl
        exact px_same (.inl ⟨_, hk2, quietF (X := X) hc (roH hr).1 (roH hr).2 (show 11 ≤ 16 by decide) (fun e he => by
          rw [List.mem_singleton] at he; subst he; exact ⟨hf, 200, rfl⟩) rfl (fun hV => by first | exact hV | (cases hV; constructor)) (subH h2)⟩)
      · exact .inr hk2
    · exact .inr hk1
  · exact px1_ok fc _ _ _ _ _ hk1
end Go.Ev.Cc
end
