import Derived.Test.YtohbfcmmpaikhaaDoorTy
import Derived.Test.YtohbfcmmpaikhaaDoorLc
import Derived.ScopeJumps
set_option linter.unusedVariables false
set_option linter.unusedSimpArgs false
namespace Go.Proofs.YtohbfcmmpaikhaaDoor
open Go Go.Lf Go.Proofs
attribute [local irreducible] Lf.rg Lf.ro Lf.PWp Lf.SOp Lf.ACall Lf.Scoped Lf.dg Lf.dw
set_option maxRecDepth 20000
set_option maxHeartbeats 4000000
theorem least_of {p : Nat → Prop} : (∃ k, p k) → ∃ k, p k ∧ ∀ j, p j → k ≤ j := by
  rintro ⟨k, hk⟩
  induction k using Nat.strongRecOn with
  | _ k ih =>
    by_cases h : ∃ j, j < k ∧ p j
    · obtain ⟨j, hj, pj⟩ := h
      exact ih j hj pj
    · exact ⟨k, hk, fun j pj => by
        by_cases hj : j < k
        · exact absurd ⟨j, hj, pj⟩ h
        · omega⟩
theorem wp_scope_ghost {P : Program} {a : Act} {w : World} {Q : Exit → Act → World → Prop} {c rest : Code} (l : Nat) (J : Nat → Act → World → Prop) (hf : findLabel c l = some rest)
    (first : c.wp P (Exit.jump l (fun a w => ∃ k, J k a w) Q) a w)
    (pass : ∀ k a w, J k a w → rest.wp P (Exit.jump l (fun a' w' => ∃ k', k' < k ∧ J k' a' w') Q) a w) : (Code.scope c).wp P Q a w := by
  classical
  have ex : ∀ a w, ∃ m : Nat, (∃ k, J k a w) → J m a w ∧ ∀ j, J j a w → m ≤ j := by
    intro a w
    by_cases h : ∃ k, J k a w
    · obtain ⟨k, h1, h2⟩ := least_of h
      exact ⟨k, fun _ => ⟨h1, h2⟩⟩
    · exact ⟨0, fun h' => absurd h' h⟩
  refine wp_scope_jumps l (fun a w => ∃ k, J k a w) (fun a w => (ex a w).choose) hf first ?_
  intro a w hJ
  have h1 := (ex a w).choose_spec hJ
  refine wp_mono (pass _ a w h1.1) ?_
  intro e a' w' h
  cases e with
  | goto l' =>
    obtain ⟨e1, k', hk, hJ'⟩ := h
    refine ⟨e1, ⟨k', hJ'⟩, ?_⟩
    have h2 := (ex a' w').choose_spec ⟨k', hJ'⟩
    exact Nat.lt_of_le_of_lt (h2.2 k' hJ') hk
  | normal => exact h
  | exit id => exact h
  | ret => exact h
  | panic ch => exact h
  | outgrown => exact h
def jumpQ (l : Nat) (K : Env → Sto → Prop) (Q : Exit → Env → Sto → Prop) : Exit → Env → Sto → Prop
  | .goto l', Γ, σ => l' = l ∧ K Γ σ
  | e, Γ, σ => Q e Γ σ
theorem Wk_E {N n : Nat} {Γ' E : Env} {σ : Sto} (h1 : LeE E Γ') : Wk N n Γ' σ E σ := by
  intro ρ w a hn hf hr
  refine ⟨ρ, ⟨hf.1, hf.2.1, ?_⟩, hr, .refl _ _ _ _ hn⟩
  have key : ∀ (E : Env), LeE E Γ' → ∀ i, VR σ ρ w (Lf.get E i) (a.tmps.getD i undef) := by
    intro E
    induction E with
    | nil => intro _ i; simp [Lf.get, VR]
    | cons p E ih =>
      obtain ⟨k, x⟩ := p
      intro h i
      simp only [LeE] at h
      simp only [Lf.get]
      split
      · rename_i e
        subst e
        obtain ⟨⟨y, hy, hl⟩, _⟩ := h
        have := hf.2.2 i
        rw [hy] at this
        exact hl.VR this
      · exact ih h.2 i
  exact key E h1
theorem pwp_scope_k {P : Program} {N n : Nat} {S : Type} {c B : Code} {Γ : Env} {σ : Sto} {Q : Exit → Env → Sto → Prop} (l : Nat) (E : S → Env) (T : S → Sto) (R : S → Prop) (μ : S → Nat) (hf : findLabel c l = some (.seq .skip B))
    (body : ∀ s, R s → PWp P N n B (E s) (T s) (jumpQ l (fun Γ' σ' => ∃ s' κ, R s' ∧ μ s' < μ s ∧ okg n κ = true ∧ LeE (E s') (Γ'.map fun p => (p.1, fz κ σ' p.2)) ∧ gcS κ σ' = T s') Q))
    (first : (∀ Γ' σ' s0 κ, R s0 → okg n κ = true → LeE (E s0) (Γ'.map fun p => (p.1, fz κ σ' p.2)) → gcS κ σ' = T s0 → PWp P N n B Γ' σ' (jumpQ l (fun Γ' σ' => ∃ s', R s' ∧ Wk N n Γ' σ' (E s') (T s')) Q)) →
      PWp P N n c Γ σ (jumpQ l (fun Γ' σ' => ∃ s', R s' ∧ Wk N n Γ' σ' (E s') (T s')) Q)) : PWp P N n (.scope c) Γ σ Q := by
  have wkg : ∀ Γ' σ' s0 κ, okg n κ = true → LeE (E s0) (Γ'.map fun p => (p.1, fz κ σ' p.2)) → gcS κ σ' = T s0 → Wk N n Γ' σ' (E s0) (T s0) := by
    intro Γ' σ' s0 κ hκ h1 h2
    have w1 := wk_gc (N := N) (Γ := Γ') (σ := σ') κ hκ
    rw [h2] at w1
    rw [← h2] at w1 ⊢
    exact w1.trans (Wk_E h1)
  have body2 : ∀ s, R s → PWp P N n B (E s) (T s) (jumpQ l (fun Γ' σ' => ∃ s', R s' ∧ μ s' < μ s ∧ Wk N n Γ' σ' (E s') (T s')) Q) := by
    intro s hs
    refine (body s hs).mono ?_
    intro e Γ' σ' q
    cases e with
    | goto l' => obtain ⟨e1, s', κ, h1, h2, h0, h3, h4⟩ := q; exact ⟨e1, s', h1, h2, wkg _ _ _ κ h0 h3 h4⟩
    | normal => exact q
    | exit id => exact q
    | ret => exact q
    | panic ch => exact q
    | outgrown => exact q
  have hfst := first (by
    intro Γ' σ' s0 κ hs h0 h1 h2
    refine pwp_wk (wkg _ _ _ κ h0 h1 h2) ((body2 s0 hs).mono ?_)
    intro e Γ2 σ2 q
    cases e with
    | goto l' => obtain ⟨e1, s', h1, h2, h3⟩ := q; exact ⟨e1, s', h1, h3⟩
    | normal => exact q
    | exit id => exact q
    | ret => exact q
    | panic ch => exact q
    | outgrown => exact q)
  unfold PWp at hfst body2 ⊢
  intro ρ w a hn hfr hr
  refine wp_scope_ghost l (fun k a' w' => ∃ s ρ', R s ∧ μ s = k ∧ FR N (E s) (T s) ρ' w' a' ∧ Rel (T s) ρ' w' ∧ Step n σ ρ w (T s) ρ' w') hf ?_ ?_
  · refine wp_mono (hfst ρ w a hn hfr hr) ?_
    rintro e a' w' ⟨Γ', σ', ρ', q, f2, r2, st⟩
    cases e with
    | goto l' =>
      obtain ⟨e1, s', h1, h2⟩ := q
      obtain ⟨ρ2, g1, g2, g3⟩ := h2 ρ' w' a' st.len' f2 r2
      exact ⟨e1, _, s', ρ2, h1, rfl, g1, g2, st.trans g3⟩
    | normal => exact ⟨_, _, _, q, f2, r2, st⟩
    | exit id => exact ⟨_, _, _, q, f2, r2, st⟩
    | ret => exact ⟨_, _, _, q, f2, r2, st⟩
    | panic ch => exact ⟨_, _, _, q, f2, r2, st⟩
    | outgrown => exact ⟨_, _, _, q, f2, r2, st⟩
  · rintro k a1 w1 ⟨s, ρ1, hs, rfl, f1, r1, s1⟩
    refine wp_seq (wp_skip ?_)
    refine wp_mono (body2 s hs ρ1 w1 a1 s1.len' f1 r1) ?_
    rintro e a' w' ⟨Γ', σ', ρ', q, f2, r2, st⟩
    cases e with
    | goto l' =>
      obtain ⟨e1, s', h1, h2, h3⟩ := q
      obtain ⟨ρ2, g1, g2, g3⟩ := h3 ρ' w' a' st.len' f2 r2
      exact ⟨e1, _, h2, s', ρ2, h1, rfl, g1, g2, (s1.trans st).trans g3⟩
    | normal => exact ⟨_, _, _, q, f2, r2, s1.trans st⟩
    | exit id => exact ⟨_, _, _, q, f2, r2, s1.trans st⟩
    | ret => exact ⟨_, _, _, q, f2, r2, s1.trans st⟩
    | panic ch => exact ⟨_, _, _, q, f2, r2, s1.trans st⟩
    | outgrown => exact ⟨_, _, _, q, f2, r2, s1.trans st⟩
end Go.Proofs.YtohbfcmmpaikhaaDoor
