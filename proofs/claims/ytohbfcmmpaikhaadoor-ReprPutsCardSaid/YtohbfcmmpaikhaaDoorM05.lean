import Derived.Test.YtohbfcmmpaikhaaDoorM04
set_option linter.unusedVariables false
set_option linter.unusedSimpArgs false
namespace Go.Proofs.YtohbfcmmpaikhaaDoor
open Go Go.Lf Go.Proofs
attribute [local irreducible] Lf.rg Lf.ro Lf.PWp Lf.SOp Lf.ACall Lf.Scoped Lf.dg
set_option maxRecDepth 20000
set_option maxHeartbeats 4000000
def jumpMW (J : Nat → Act → World → Prop) (Q : Exit → Act → World → Prop) : Exit → Act → World → Prop
  | .goto l, a, w => J l a w
  | e, a, w => Q e a w
theorem wp_scope_many {P : Program} {a : Act} {w : World} {Q : Exit → Act → World → Prop} {c : Code} (J : Nat → Nat → Act → World → Prop)
    (first : c.wp P (jumpMW (fun l a w => ∃ k, J l k a w) Q) a w)
    (pass : ∀ l k a w, J l k a w → ∃ rest, findLabel c l = some rest ∧ rest.wp P (jumpMW (fun l' a' w' => ∃ k', k' < k ∧ J l' k' a' w') Q) a w) : (Code.scope c).wp P Q a w := by
  intro b k cs
  have hg : ∀ {l rest}, findLabel c l = some rest → gotoIn l (.inScope c :: k) = some (.code rest :: .inScope c :: k) := fun hf => by simp [gotoIn, hf]
  have key : ∀ m l a w, J l m a w → ∃ rest, findLabel c l = some rest ∧ ∃ e a' w', Q e a' w' ∧ Arrives P (lone (b.at a (.code rest :: .inScope c :: k)) cs w) b k cs e a' w' := by
    intro m
    induction m using Nat.strongRecOn with
    | _ m ih =>
      intro l a w hJ
      obtain ⟨rest, hf, hp⟩ := pass l m a w hJ
      refine ⟨rest, hf, ?_⟩
      obtain ⟨e, a₁, w₁, hq, harr⟩ := hp b (.inScope c :: k) cs
      cases e with
      | normal => exact ⟨.normal, a₁, w₁, hq, Steps.trans harr (.one step_inScope)⟩
      | exit id => exact ⟨.exit id, a₁, w₁, hq, fun k' hk => harr k' (by simp [exitTo, hk])⟩
      | goto l' =>
        obtain ⟨k', hlt, hJ'⟩ := hq
        obtain ⟨rest2, hf2, e₂, a₂, w₂, hq₂, harr₂⟩ := ih k' hlt l' a₁ w₁ hJ'
        exact ⟨e₂, a₂, w₂, hq₂, .of_steps (harr _ (hg hf2)) harr₂⟩
      | ret => exact ⟨_, a₁, w₁, hq, harr⟩
      | panic ch => exact ⟨_, a₁, w₁, hq, harr⟩
      | outgrown => exact ⟨_, a₁, w₁, hq, harr⟩
  obtain ⟨e, a₁, w₁, hq, harr⟩ := first b (.inScope c :: k) cs
  cases e with
  | normal => exact ⟨.normal, a₁, w₁, hq, .head step_scope (Steps.trans harr (.one step_inScope))⟩
  | exit id => exact ⟨.exit id, a₁, w₁, hq, fun k' hk => .head step_scope (harr k' (by simp [exitTo, hk]))⟩
  | goto l' =>
    obtain ⟨k', hJ'⟩ := hq
    obtain ⟨rest2, hf2, e₂, a₂, w₂, hq₂, harr₂⟩ := key k' l' a₁ w₁ hJ'
    exact ⟨e₂, a₂, w₂, hq₂, .of_steps (.head step_scope (harr _ (hg hf2))) harr₂⟩
  | ret => exact ⟨_, a₁, w₁, hq, .of_steps (.one step_scope) harr⟩
  | panic ch => exact ⟨_, a₁, w₁, hq, .of_steps (.one step_scope) harr⟩
  | outgrown => exact ⟨_, a₁, w₁, hq, .of_steps (.one step_scope) harr⟩
def jumpM (J : Nat → Env → Sto → Prop) (Q : Exit → Env → Sto → Prop) : Exit → Env → Sto → Prop
  | .goto l, Γ, σ => J l Γ σ
  | e, Γ, σ => Q e Γ σ
theorem jumpM_mono {J J' : Nat → Env → Sto → Prop} {Q : Exit → Env → Sto → Prop} (h : ∀ l Γ σ, J l Γ σ → J' l Γ σ) : ∀ e Γ σ, jumpM J Q e Γ σ → jumpM J' Q e Γ σ := by
  intro e Γ σ q
  cases e with
  | goto l => exact h _ _ _ q
  | normal => exact q
  | exit id => exact q
  | ret => exact q
  | panic ch => exact q
  | outgrown => exact q
def AtL {S : Type} (n : Nat) (lab : S → Nat) (E : S → Env) (T : S → Sto) (R : S → Prop) (ok : S → Prop) (l : Nat) (Γ : Env) (σ : Sto) : Prop :=
  ∃ s κ, lab s = l ∧ R s ∧ ok s ∧ okg n κ = true ∧ LeE (E s) (Γ.map fun p => (p.1, fz κ σ p.2)) ∧ gcS κ σ = T s
theorem pwp_scope_m {P : Program} {N n : Nat} {S : Type} {c : Code} {Γ : Env} {σ : Sto} {Q : Exit → Env → Sto → Prop} (lab : S → Nat) (B : S → Code) (E : S → Env) (T : S → Sto) (R : S → Prop) (μ : S → Nat) (hf : ∀ s, findLabel c (lab s) = some (.seq .skip (B s)))
    (body : ∀ s, R s → (∀ Γ' σ' s1 κ, R s1 → μ s1 < μ s → okg n κ = true → LeE (E s1) (Γ'.map fun p => (p.1, fz κ σ' p.2)) → gcS κ σ' = T s1 → PWp P N n (B s1) Γ' σ' (jumpM (AtL n lab E T R (fun s' => μ s' < μ s)) Q)) →
      PWp P N n (B s) (E s) (T s) (jumpM (AtL n lab E T R (fun s' => μ s' < μ s)) Q))
    (first : (∀ Γ' σ' s0 κ, R s0 → okg n κ = true → LeE (E s0) (Γ'.map fun p => (p.1, fz κ σ' p.2)) → gcS κ σ' = T s0 → PWp P N n (B s0) Γ' σ' (jumpM (AtL n lab E T R (fun _ => True)) Q)) →
      PWp P N n c Γ σ (jumpM (AtL n lab E T R (fun _ => True)) Q)) : PWp P N n (.scope c) Γ σ Q := by
  have wkg : ∀ Γ' σ' s0 κ, okg n κ = true → LeE (E s0) (Γ'.map fun p => (p.1, fz κ σ' p.2)) → gcS κ σ' = T s0 → Wk N n Γ' σ' (E s0) (T s0) := by
    intro Γ' σ' s0 κ hκ h1 h2
    have w1 := wk_gc (N := N) (Γ := Γ') (σ := σ') κ hκ
    rw [h2] at w1
    rw [← h2] at w1 ⊢
    exact w1.trans (Wk_E h1)
  have body2 : ∀ m s, μ s = m → R s → PWp P N n (B s) (E s) (T s) (jumpM (AtL n lab E T R (fun s' => μ s' < μ s)) Q) := by
    intro m
    induction m using Nat.strongRecOn with
    | _ m ih =>
      intro s hm hs
      refine body s hs ?_
      intro Γ' σ' s1 κ hR hlt h0 h1 h2
      refine pwp_wk (wkg _ _ _ κ h0 h1 h2) ((ih (μ s1) (by omega) s1 rfl hR).mono ?_)
      refine jumpM_mono ?_
      rintro l Γ2 σ2 ⟨s2, κ2, e1, e2, e3, e4⟩
      exact ⟨s2, κ2, e1, e2, Nat.lt_trans e3 hlt, e4⟩
  have hfst := first (by
    intro Γ' σ' s0 κ hs h0 h1 h2
    refine pwp_wk (wkg _ _ _ κ h0 h1 h2) ((body2 _ s0 rfl hs).mono ?_)
    refine jumpM_mono ?_
    rintro l Γ2 σ2 ⟨s2, κ2, e1, e2, e3, e4⟩
    exact ⟨s2, κ2, e1, e2, trivial, e4⟩)
  unfold PWp at hfst body2 ⊢
  intro ρ w a hn hfr hr
  refine wp_scope_many (fun l k a' w' => ∃ s ρ', lab s = l ∧ R s ∧ μ s = k ∧ FR N (E s) (T s) ρ' w' a' ∧ Rel (T s) ρ' w' ∧ Step n σ ρ w (T s) ρ' w') ?_ ?_
  · refine wp_mono (hfst ρ w a hn hfr hr) ?_
    rintro e a' w' ⟨Γ', σ', ρ', q, f2, r2, st⟩
    cases e with
    | goto l' =>
      obtain ⟨s', κ, e1, h1, _, hκ, h2, h3⟩ := q
      obtain ⟨ρ2, g1, g2, g3⟩ := wkg _ _ _ κ hκ h2 h3 ρ' w' a' st.len' f2 r2
      exact ⟨_, s', ρ2, e1, h1, rfl, g1, g2, st.trans g3⟩
    | normal => exact ⟨_, _, _, q, f2, r2, st⟩
    | exit id => exact ⟨_, _, _, q, f2, r2, st⟩
    | ret => exact ⟨_, _, _, q, f2, r2, st⟩
    | panic ch => exact ⟨_, _, _, q, f2, r2, st⟩
    | outgrown => exact ⟨_, _, _, q, f2, r2, st⟩
  · rintro l k a1 w1 ⟨s, ρ1, rfl, hs, rfl, f1, r1, s1⟩
    refine ⟨_, hf s, ?_⟩
    refine wp_seq (wp_skip ?_)
    refine wp_mono (body2 _ s rfl hs ρ1 w1 a1 s1.len' f1 r1) ?_
    rintro e a' w' ⟨Γ', σ', ρ', q, f2, r2, st⟩
    cases e with
    | goto l' =>
      obtain ⟨s', κ, e1, h1, hlt, hκ, h2, h3⟩ := q
      obtain ⟨ρ2, g1, g2, g3⟩ := wkg _ _ _ κ hκ h2 h3 ρ' w' a' st.len' f2 r2
      exact ⟨_, hlt, s', ρ2, e1, h1, rfl, g1, g2, (s1.trans st).trans g3⟩
    | normal => exact ⟨_, _, _, q, f2, r2, s1.trans st⟩
    | exit id => exact ⟨_, _, _, q, f2, r2, s1.trans st⟩
    | ret => exact ⟨_, _, _, q, f2, r2, s1.trans st⟩
    | panic ch => exact ⟨_, _, _, q, f2, r2, s1.trans st⟩
    | outgrown => exact ⟨_, _, _, q, f2, r2, s1.trans st⟩
def sel3 (B0 B1 B2 : Code) (k : Fin 3) : Code := match k with | 0 => B0 | 1 => B1 | 2 => B2
theorem pwp_scope_3 {P : Program} {N n : Nat} {S : Type} {c B0 B1 B2 : Code} {Γ : Env} {σ : Sto} {Q : Exit → Env → Sto → Prop} (lab : S → Fin 3) (E : S → Env) (T : S → Sto) (R : S → Prop) (μ : S → Nat)
    (h0 : findLabel c 0 = some (.seq .skip B0)) (h1 : findLabel c 1 = some (.seq .skip B1)) (h2 : findLabel c 2 = some (.seq .skip B2))
    (body0 : ∀ s, lab s = 0 → R s → (∀ Γ' σ' s1 κ, lab s1 = 1 → R s1 → μ s1 < μ s → okg n κ = true → LeE (E s1) (Γ'.map fun p => (p.1, fz κ σ' p.2)) → gcS κ σ' = T s1 → PWp P N n B1 Γ' σ' (jumpM (AtL n (fun s => (lab s).val) E T R (fun s' => μ s' < μ s)) Q)) →
      PWp P N n B0 (E s) (T s) (jumpM (AtL n (fun s => (lab s).val) E T R (fun s' => μ s' < μ s)) Q))
    (body1 : ∀ s, lab s = 1 → R s → PWp P N n B1 (E s) (T s) (jumpM (AtL n (fun s => (lab s).val) E T R (fun s' => μ s' < μ s)) Q))
    (body2 : ∀ s, lab s = 2 → R s → PWp P N n B2 (E s) (T s) (jumpM (AtL n (fun s => (lab s).val) E T R (fun s' => μ s' < μ s)) Q))
    (first : (∀ Γ' σ' s0 κ, lab s0 = 0 → R s0 → okg n κ = true → LeE (E s0) (Γ'.map fun p => (p.1, fz κ σ' p.2)) → gcS κ σ' = T s0 → PWp P N n B0 Γ' σ' (jumpM (AtL n (fun s => (lab s).val) E T R (fun _ => True)) Q)) →
      PWp P N n c Γ σ (jumpM (AtL n (fun s => (lab s).val) E T R (fun _ => True)) Q)) : PWp P N n (.scope c) Γ σ Q := by
  refine pwp_scope_m (fun s => (lab s).val) (fun s => sel3 B0 B1 B2 (lab s)) E T R μ ?_ ?_ ?_
  · intro s
    generalize lab s = k
    match k with
    | 0 => exact h0
    | 1 => exact h1
    | 2 => exact h2
  · intro s hs hB
    rcases (show lab s = 0 ∨ lab s = 1 ∨ lab s = 2 by omega) with e | e | e
    · rw [e]
      refine body0 s e hs ?_
      intro Γ' σ' s1 κ e1 hR hlt hk hl hg
      have := hB Γ' σ' s1 κ hR hlt hk hl hg
      rw [e1] at this
      exact this
    · rw [e]; exact body1 s e hs
    · rw [e]; exact body2 s e hs
  · intro hB
    refine first ?_
    intro Γ' σ' s0 κ e1 hR hk hl hg
    have := hB Γ' σ' s0 κ hR hk hl hg
    rw [e1] at this
    exact this
end Go.Proofs.YtohbfcmmpaikhaaDoor
