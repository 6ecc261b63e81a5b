import Derived.Test.YtohbfcmmpaikhaaDoorTy
import Derived.Test.YtohbfcmmpaikhaaDoorLc
import Derived.ScopeJumps
import Derived.Test.YtohbfcmmpaikhaaDoorZ04
set_option linter.unusedVariables false
set_option linter.unusedSimpArgs false
namespace Go.Proofs.YtohbfcmmpaikhaaDoor
open Go Go.Lf Go.Proofs
attribute [local irreducible] Lf.rg Lf.ro Lf.PWp Lf.SOp Lf.ACall Lf.Scoped Lf.dg Lf.dw
set_option maxRecDepth 20000
set_option maxHeartbeats 4000000
theorem least_of {p : Nat → Prop} : (∃ k, p k) → ∃ k, p k ∧ ∀ j, p j → k ≤ j := by
  rintro ⟨k, hk⟩
  induction k using Nat.strongRecOn with
  | _ k ih =>
    by_cases h : ∃ j, j < k ∧ p j
    · obtain ⟨j, hj, pj⟩ := h
      exact ih j hj pj
    · exact ⟨k, hk, fun j pj => by
        by_cases hj : j < k
        · exact absurd ⟨j, hj, pj⟩ h
        · omega⟩
theorem wp_scope_ghost {P : Program} {a : Act} {w : World} {Q : Exit → Act → World → Prop} {c rest : Code} (l : Nat) (J : Nat → Act → World → Prop) (hf : findLabel c l = some rest)
    (first : c.wp P (Exit.jump l (fun a w => ∃ k, J k a w) Q) a w)
    (pass : ∀ k a w, J k a w → rest.wp P (Exit.jump l (fun a' w' => ∃ k', k' < k ∧ J k' a' w') Q) a w) : (Code.scope c).wp P Q a w := by
  classical
  have ex : ∀ a w, ∃ m : Nat, (∃ k, J k a w) → J m a w ∧ ∀ j, J j a w → m ≤ j := by
    intro a w
    by_cases h : ∃ k, J k a w
    · obtain ⟨k, h1, h2⟩ := least_of h
      exact ⟨k, fun _ => ⟨h1, h2⟩⟩
    · exact ⟨0, fun h' => absurd h' h⟩
  refine wp_scope_jumps l (fun a w => ∃ k, J k a w) (fun a w => (ex a w).choose) hf first ?_
  intro a w hJ
  have h1 := (ex a w).choose_spec hJ
  refine wp_mono (pass _ a w h1.1) ?_
  intro e a' w' h
  cases e with
  | goto l' =>
    obtain ⟨e1, k', hk, hJ'⟩ := h
    refine ⟨e1, ⟨k', hJ'⟩, ?_⟩
    have h2 := (ex a' w').choose_spec ⟨k', hJ'⟩
    exact Nat.lt_of_le_of_lt (h2.2 k' hJ') hk
  | normal => exact h
  | exit id => exact h
  | ret => exact h
  | panic ch => exact h
  | outgrown => exact h
def jumpQ (l : Nat) (K : Env → Sto → Prop) (Q : Exit → Env → Sto → Prop) : Exit → Env → Sto → Prop
 | .goto l', Γ, σ => l' = l ∧ K Γ σ
 | e, Γ, σ => Q e Γ σ
theorem Wk_E {N n : Nat} {Γ' E : Env} {σ : Sto} (h1 : LeE E Γ') : Wk N n Γ' σ E σ := by
 intro ρ w a hn hf hr
 refine ⟨ρ, ⟨hf.1, hf.2.1, ?_⟩, hr, .refl _ _ _ _ hn⟩
 have key : ∀ (E : Env), LeE E Γ' → ∀ i, VR σ ρ w (Lf.get E i) (a.tmps.getD i undef) := by
  intro E
  induction E with
  | nil => intro _ i; simp [Lf.get, VR]
  | cons p E ih =>
   obtain ⟨k, x⟩ := p
   intro h i
   simp only [LeE] at h
   simp only [Lf.get]
   split
   ·rename_i e
    subst e
    obtain ⟨⟨y, hy, hl⟩, _⟩ := h
    have := hf.2.2 i
    rw [hy] at this
    exact hl.VR this
   ·exact ih h.2 i
 exact key E h1
theorem pwp_scope_k {P : Program} {N n : Nat} {S : Type} {c B : Code} {Γ : Env} {σ : Sto} {Q : Exit → Env → Sto → Prop} (l : Nat) (E : S → Env) (T : S → Sto) (R : S → Prop) (μ : S → Nat) (hf : findLabel c l = some (.seq .skip B))
    (body : ∀ s, R s → PWp P N n B (E s) (T s) (jumpQ l (fun Γ' σ' => ∃ s' κ, R s' ∧ μ s' < μ s ∧ okg n κ = true ∧ LeE (E s') (Γ'.map fun p => (p.1, fz κ σ' p.2)) ∧ gcS κ σ' = T s') Q))
    (first : (∀ Γ' σ' s0 κ, R s0 → okg n κ = true → LeE (E s0) (Γ'.map fun p => (p.1, fz κ σ' p.2)) → gcS κ σ' = T s0 → PWp P N n B Γ' σ' (jumpQ l (fun Γ' σ' => ∃ s', R s' ∧ Wk N n Γ' σ' (E s') (T s')) Q)) →
      PWp P N n c Γ σ (jumpQ l (fun Γ' σ' => ∃ s', R s' ∧ Wk N n Γ' σ' (E s') (T s')) Q)) : PWp P N n (.scope c) Γ σ Q := by
  have wkg : ∀ Γ' σ' s0 κ, okg n κ = true → LeE (E s0) (Γ'.map fun p => (p.1, fz κ σ' p.2)) → gcS κ σ' = T s0 → Wk N n Γ' σ' (E s0) (T s0) := by
    intro Γ' σ' s0 κ hκ h1 h2
    have w1 := wk_gc (N := N) (Γ := Γ') (σ := σ') κ hκ
    rw [h2] at w1
    rw [← h2] at w1 ⊢
    exact w1.trans (Wk_E h1)
  have body2 : ∀ s, R s → PWp P N n B (E s) (T s) (jumpQ l (fun Γ' σ' => ∃ s', R s' ∧ μ s' < μ s ∧ Wk N n Γ' σ' (E s') (T s')) Q) := by
    intro s hs
    refine (body s hs).mono ?_
    intro e Γ' σ' q
    cases e with
    | goto l' => obtain ⟨e1, s', κ, h1, h2, h0, h3, h4⟩ := q; exact ⟨e1, s', h1, h2, wkg _ _ _ κ h0 h3 h4⟩
    | normal => exact q
    | exit id => exact q
    | ret => exact q
    | panic ch => exact q
    | outgrown => exact q
  have hfst := first (by
    intro Γ' σ' s0 κ hs h0 h1 h2
    refine pwp_wk (wkg _ _ _ κ h0 h1 h2) ((body2 s0 hs).mono ?_)
    intro e Γ2 σ2 q
    cases e with
    | goto l' => obtain ⟨e1, s', h1, h2, h3⟩ := q; exact ⟨e1, s', h1, h3⟩
    | normal => exact q
    | exit id => exact q
    | ret => exact q
    | panic ch => exact q
    | outgrown => exact q)
  unfold PWp at hfst body2 ⊢
  intro ρ w a hn hfr hr
  refine wp_scope_ghost l (fun k a' w' => ∃ s ρ', R s ∧ μ s = k ∧ FR N (E s) (T s) ρ' w' a' ∧ Rel (T s) ρ' w' ∧ Step n σ ρ w (T s) ρ' w') hf ?_ ?_
  · refine wp_mono (hfst ρ w a hn hfr hr) ?_
    rintro e a' w' ⟨Γ', σ', ρ', q, f2, r2, st⟩
    cases e with
    | goto l' =>
      obtain ⟨e1, s', h1, h2⟩ := q
      obtain ⟨ρ2, g1, g2, g3⟩ := h2 ρ' w' a' st.len' f2 r2
      exact ⟨e1, _, s', ρ2, h1, rfl, g1, g2, st.trans g3⟩
    | normal => exact ⟨_, _, _, q, f2, r2, st⟩
    | exit id => exact ⟨_, _, _, q, f2, r2, st⟩
    | ret => exact ⟨_, _, _, q, f2, r2, st⟩
    | panic ch => exact ⟨_, _, _, q, f2, r2, st⟩
    | outgrown => exact ⟨_, _, _, q, f2, r2, st⟩
  · rintro k a1 w1 ⟨s, ρ1, hs, rfl, f1, r1, s1⟩
    refine wp_seq (wp_skip ?_)
    refine wp_mono (body2 s hs ρ1 w1 a1 s1.len' f1 r1) ?_
    rintro e a' w' ⟨Γ', σ', ρ', q, f2, r2, st⟩
    cases e with
    | goto l' =>
      obtain ⟨e1, s', h1, h2, h3⟩ := q
      obtain ⟨ρ2, g1, g2, g3⟩ := h3 ρ' w' a' st.len' f2 r2
      exact ⟨e1, _, h2, s', ρ2, h1, rfl, g1, g2, (s1.trans st).trans g3⟩
    | normal => exact ⟨_, _, _, q, f2, r2, s1.trans st⟩
    | exit id => exact ⟨_, _, _, q, f2, r2, s1.trans st⟩
    | ret => exact ⟨_, _, _, q, f2, r2, s1.trans st⟩
    | panic ch => exact ⟨_, _, _, q, f2, r2, s1.trans st⟩
    | outgrown => exact ⟨_, _, _, q, f2, r2, s1.trans st⟩
end Go.Proofs.YtohbfcmmpaikhaaDoor

set_option linter.unusedVariables false
set_option linter.unusedSimpArgs false
namespace Go.Proofs.YtohbfcmmpaikhaaDoor
open Go Go.Lf Go.Proofs
attribute [local irreducible] Lf.rg Lf.ro Lf.PWp Lf.SOp Lf.ACall Lf.Scoped Lf.dg
set_option maxRecDepth 20000
set_option maxHeartbeats 4000000
def jumpMW (J : Nat → Act → World → Prop) (Q : Exit → Act → World → Prop) : Exit → Act → World → Prop
 | .goto l, a, w => J l a w
 | e, a, w => Q e a w
theorem wp_scope_many {P : Program} {a : Act} {w : World} {Q : Exit → Act → World → Prop} {c : Code} (J : Nat → Nat → Act → World → Prop)
    (first : c.wp P (jumpMW (fun l a w => ∃ k, J l k a w) Q) a w)
    (pass : ∀ l k a w, J l k a w → ∃ rest, findLabel c l = some rest ∧ rest.wp P (jumpMW (fun l' a' w' => ∃ k', k' < k ∧ J l' k' a' w') Q) a w) : (Code.scope c).wp P Q a w := by
  intro b k cs
  have hg : ∀ {l rest}, findLabel c l = some rest → gotoIn l (.inScope c :: k) = some (.code rest :: .inScope c :: k) := fun hf => by simp [gotoIn, hf]
  have key : ∀ m l a w, J l m a w → ∃ rest, findLabel c l = some rest ∧ ∃ e a' w', Q e a' w' ∧ Arrives P (lone (b.at a (.code rest :: .inScope c :: k)) cs w) b k cs e a' w' := by
    intro m
    induction m using Nat.strongRecOn with
    | _ m ih =>
      intro l a w hJ
      obtain ⟨rest, hf, hp⟩ := pass l m a w hJ
      refine ⟨rest, hf, ?_⟩
      obtain ⟨e, a₁, w₁, hq, harr⟩ := hp b (.inScope c :: k) cs
      cases e with
      | normal => exact ⟨.normal, a₁, w₁, hq, Steps.trans harr (.one step_inScope)⟩
      | exit id => exact ⟨.exit id, a₁, w₁, hq, fun k' hk => harr k' (by simp [exitTo, hk])⟩
      | goto l' =>
        obtain ⟨k', hlt, hJ'⟩ := hq
        obtain ⟨rest2, hf2, e₂, a₂, w₂, hq₂, harr₂⟩ := ih k' hlt l' a₁ w₁ hJ'
        exact ⟨e₂, a₂, w₂, hq₂, .of_steps (harr _ (hg hf2)) harr₂⟩
      | ret => exact ⟨_, a₁, w₁, hq, harr⟩
      | panic ch => exact ⟨_, a₁, w₁, hq, harr⟩
      | outgrown => exact ⟨_, a₁, w₁, hq, harr⟩
  obtain ⟨e, a₁, w₁, hq, harr⟩ := first b (.inScope c :: k) cs
  cases e with
  | normal => exact ⟨.normal, a₁, w₁, hq, .head step_scope (Steps.trans harr (.one step_inScope))⟩
  | exit id => exact ⟨.exit id, a₁, w₁, hq, fun k' hk => .head step_scope (harr k' (by simp [exitTo, hk]))⟩
  | goto l' =>
    obtain ⟨k', hJ'⟩ := hq
    obtain ⟨rest2, hf2, e₂, a₂, w₂, hq₂, harr₂⟩ := key k' l' a₁ w₁ hJ'
    exact ⟨e₂, a₂, w₂, hq₂, .of_steps (.head step_scope (harr _ (hg hf2))) harr₂⟩
  | ret => exact ⟨_, a₁, w₁, hq, .of_steps (.one step_scope) harr⟩
  | panic ch => exact ⟨_, a₁, w₁, hq, .of_steps (.one step_scope) harr⟩
  | outgrown => exact ⟨_, a₁, w₁, hq, .of_steps (.one step_scope) harr⟩
def jumpM (J : Nat → Env → Sto → Prop) (Q : Exit → Env → Sto → Prop) : Exit → Env → Sto → Prop
 | .goto l, Γ, σ => J l Γ σ
 | e, Γ, σ => Q e Γ σ
theorem jumpM_mono {J J' : Nat → Env → Sto → Prop} {Q : Exit → Env → Sto → Prop} (h : ∀ l Γ σ, J l Γ σ → J' l Γ σ) : ∀ e Γ σ, jumpM J Q e Γ σ → jumpM J' Q e Γ σ := by
 intro e Γ σ q
 cases e with
 | goto l => exact h _ _ _ q
 | normal => exact q
 | exit id => exact q
 | ret => exact q
 | panic ch => exact q
 | outgrown => exact q
def AtL {S : Type} (n : Nat) (lab : S → Nat) (E : S → Env) (T : S → Sto) (R : S → Prop) (ok : S → Prop) (l : Nat) (Γ : Env) (σ : Sto) : Prop :=
 ∃ s κ, lab s = l ∧ R s ∧ ok s ∧ okg n κ = true ∧ LeE (E s) (Γ.map fun p => (p.1, fz κ σ p.2)) ∧ gcS κ σ = T s
theorem pwp_scope_m {P : Program} {N n : Nat} {S : Type} {c : Code} {Γ : Env} {σ : Sto} {Q : Exit → Env → Sto → Prop} (lab : S → Nat) (B : S → Code) (E : S → Env) (T : S → Sto) (R : S → Prop) (μ : S → Nat) (hf : ∀ s, findLabel c (lab s) = some (.seq .skip (B s)))
    (body : ∀ s, R s → (∀ Γ' σ' s1 κ, R s1 → μ s1 < μ s → okg n κ = true → LeE (E s1) (Γ'.map fun p => (p.1, fz κ σ' p.2)) → gcS κ σ' = T s1 → PWp P N n (B s1) Γ' σ' (jumpM (AtL n lab E T R (fun s' => μ s' < μ s)) Q)) →
      PWp P N n (B s) (E s) (T s) (jumpM (AtL n lab E T R (fun s' => μ s' < μ s)) Q))
    (first : (∀ Γ' σ' s0 κ, R s0 → okg n κ = true → LeE (E s0) (Γ'.map fun p => (p.1, fz κ σ' p.2)) → gcS κ σ' = T s0 → PWp P N n (B s0) Γ' σ' (jumpM (AtL n lab E T R (fun _ => True)) Q)) →
      PWp P N n c Γ σ (jumpM (AtL n lab E T R (fun _ => True)) Q)) : PWp P N n (.scope c) Γ σ Q := by
  have wkg : ∀ Γ' σ' s0 κ, okg n κ = true → LeE (E s0) (Γ'.map fun p => (p.1, fz κ σ' p.2)) → gcS κ σ' = T s0 → Wk N n Γ' σ' (E s0) (T s0) := by
    intro Γ' σ' s0 κ hκ h1 h2
    have w1 := wk_gc (N := N) (Γ := Γ') (σ := σ') κ hκ
    rw [h2] at w1
    rw [← h2] at w1 ⊢
    exact w1.trans (Wk_E h1)
  have body2 : ∀ m s, μ s = m → R s → PWp P N n (B s) (E s) (T s) (jumpM (AtL n lab E T R (fun s' => μ s' < μ s)) Q) := by
    intro m
    induction m using Nat.strongRecOn with
    | _ m ih =>
      intro s hm hs
      refine body s hs ?_
      intro Γ' σ' s1 κ hR hlt h0 h1 h2
      refine pwp_wk (wkg _ _ _ κ h0 h1 h2) ((ih (μ s1) (by omega) s1 rfl hR).mono ?_)
      refine jumpM_mono ?_
      rintro l Γ2 σ2 ⟨s2, κ2, e1, e2, e3, e4⟩
      exact ⟨s2, κ2, e1, e2, Nat.lt_trans e3 hlt, e4⟩
  have hfst := first (by
    intro Γ' σ' s0 κ hs h0 h1 h2
    refine pwp_wk (wkg _ _ _ κ h0 h1 h2) ((body2 _ s0 rfl hs).mono ?_)
    refine jumpM_mono ?_
    rintro l Γ2 σ2 ⟨s2, κ2, e1, e2, e3, e4⟩
    exact ⟨s2, κ2, e1, e2, trivial, e4⟩)
  unfold PWp at hfst body2 ⊢
  intro ρ w a hn hfr hr
  refine wp_scope_many (fun l k a' w' => ∃ s ρ', lab s = l ∧ R s ∧ μ s = k ∧ FR N (E s) (T s) ρ' w' a' ∧ Rel (T s) ρ' w' ∧ Step n σ ρ w (T s) ρ' w') ?_ ?_
  · refine wp_mono (hfst ρ w a hn hfr hr) ?_
    rintro e a' w' ⟨Γ', σ', ρ', q, f2, r2, st⟩
    cases e with
    | goto l' =>
      obtain ⟨s', κ, e1, h1, _, hκ, h2, h3⟩ := q
      obtain ⟨ρ2, g1, g2, g3⟩ := wkg _ _ _ κ hκ h2 h3 ρ' w' a' st.len' f2 r2
      exact ⟨_, s', ρ2, e1, h1, rfl, g1, g2, st.trans g3⟩
    | normal => exact ⟨_, _, _, q, f2, r2, st⟩
    | exit id => exact ⟨_, _, _, q, f2, r2, st⟩
    | ret => exact ⟨_, _, _, q, f2, r2, st⟩
    | panic ch => exact ⟨_, _, _, q, f2, r2, st⟩
    | outgrown => exact ⟨_, _, _, q, f2, r2, st⟩
  · rintro l k a1 w1 ⟨s, ρ1, rfl, hs, rfl, f1, r1, s1⟩
    refine ⟨_, hf s, ?_⟩
    refine wp_seq (wp_skip ?_)
    refine wp_mono (body2 _ s rfl hs ρ1 w1 a1 s1.len' f1 r1) ?_
    rintro e a' w' ⟨Γ', σ', ρ', q, f2, r2, st⟩
    cases e with
    | goto l' =>
      obtain ⟨s', κ, e1, h1, hlt, hκ, h2, h3⟩ := q
      obtain ⟨ρ2, g1, g2, g3⟩ := wkg _ _ _ κ hκ h2 h3 ρ' w' a' st.len' f2 r2
      exact ⟨_, hlt, s', ρ2, e1, h1, rfl, g1, g2, (s1.trans st).trans g3⟩
    | normal => exact ⟨_, _, _, q, f2, r2, s1.trans st⟩
    | exit id => exact ⟨_, _, _, q, f2, r2, s1.trans st⟩
    | ret => exact ⟨_, _, _, q, f2, r2, s1.trans st⟩
    | panic ch => exact ⟨_, _, _, q, f2, r2, s1.trans st⟩
    | outgrown => exact ⟨_, _, _, q, f2, r2, s1.trans st⟩
def sel3 (B0 B1 B2 : Code) (k : Fin 3) : Code := match k with | 0 => B0 | 1 => B1 | 2 => B2
theorem pwp_scope_3 {P : Program} {N n : Nat} {S : Type} {c B0 B1 B2 : Code} {Γ : Env} {σ : Sto} {Q : Exit → Env → Sto → Prop} (lab : S → Fin 3) (E : S → Env) (T : S → Sto) (R : S → Prop) (μ : S → Nat)
    (h0 : findLabel c 0 = some (.seq .skip B0)) (h1 : findLabel c 1 = some (.seq .skip B1)) (h2 : findLabel c 2 = some (.seq .skip B2))
    (body0 : ∀ s, lab s = 0 → R s → (∀ Γ' σ' s1 κ, lab s1 = 1 → R s1 → μ s1 < μ s → okg n κ = true → LeE (E s1) (Γ'.map fun p => (p.1, fz κ σ' p.2)) → gcS κ σ' = T s1 → PWp P N n B1 Γ' σ' (jumpM (AtL n (fun s => (lab s).val) E T R (fun s' => μ s' < μ s)) Q)) →
      PWp P N n B0 (E s) (T s) (jumpM (AtL n (fun s => (lab s).val) E T R (fun s' => μ s' < μ s)) Q))
    (body1 : ∀ s, lab s = 1 → R s → PWp P N n B1 (E s) (T s) (jumpM (AtL n (fun s => (lab s).val) E T R (fun s' => μ s' < μ s)) Q))
    (body2 : ∀ s, lab s = 2 → R s → PWp P N n B2 (E s) (T s) (jumpM (AtL n (fun s => (lab s).val) E T R (fun s' => μ s' < μ s)) Q))
    (first : (∀ Γ' σ' s0 κ, lab s0 = 0 → R s0 → okg n κ = true → LeE (E s0) (Γ'.map fun p => (p.1, fz κ σ' p.2)) → gcS κ σ' = T s0 → PWp P N n B0 Γ' σ' (jumpM (AtL n (fun s => (lab s).val) E T R (fun _ => True)) Q)) →
      PWp P N n c Γ σ (jumpM (AtL n (fun s => (lab s).val) E T R (fun _ => True)) Q)) : PWp P N n (.scope c) Γ σ Q := by
  refine pwp_scope_m (fun s => (lab s).val) (fun s => sel3 B0 B1 B2 (lab s)) E T R μ ?_ ?_ ?_
  · intro s
    generalize lab s = k
    match k with
    | 0 => exact h0
    | 1 => exact h1
    | 2 => exact h2
  · intro s hs hB
    rcases (show lab s = 0 ∨ lab s = 1 ∨ lab s = 2 by omega) with e | e | e
    · rw [e]
      refine body0 s e hs ?_
      intro Γ' σ' s1 κ e1 hR hlt hk hl hg
      have := hB Γ' σ' s1 κ hR hlt hk hl hg
      rw [e1] at this
      exact this
    · rw [e]; exact body1 s e hs
    · rw [e]; exact body2 s e hs
  · intro hB
    refine first ?_
    intro Γ' σ' s0 κ e1 hR hk hl hg
    have := hB Γ' σ' s0 κ hR hk hl hg
    rw [e1] at this
    exact this
end Go.Proofs.YtohbfcmmpaikhaaDoor

set_option linter.unusedVariables false
set_option linter.unusedSimpArgs false
namespace Go.Proofs.YtohbfcmmpaikhaaDoor
open Go Go.Lf Go.Proofs
attribute [local irreducible] Lf.rg Lf.ro Lf.PWp Lf.SOp Lf.ACall Lf.Scoped Lf.dg
set_option maxRecDepth 20000
set_option maxHeartbeats 4000000
def fstT : List Int := [0, 0, 0, 0, 0, 0, 20, 92, 248, 508, 1016, 2042, 4090, 8184, 16380, 32764, 65534, 131068, 262136, 524272, 1048550, 2097116, 4194258, 8388568, 16777194, 33554412, 67108832, 134217694, 268435426, 536870910, 1073741820]
def cntT : List Int := [0, 0, 0, 0, 0, 10, 26, 32, 6, 0, 5, 3, 2, 6, 2, 3, 0, 0, 0, 3, 8, 13, 26, 29, 12, 4, 15, 19, 29, 0, 4]
def bseT : List Int := [0, 0, 0, 0, 0, 0, 10, 36, 68, 74, 74, 79, 82, 84, 90, 92, 95, 95, 95, 95, 98, 106, 119, 145, 174, 186, 190, 205, 224, 253, 253]
theorem tab_is : ∀ n : Fin 31, fstI n.val = fstT.getD n.val 0 ∧ cntN 257 n.val = cntT.getD n.val 0 ∧ bseI n.val = bseT.getD n.val 0 := by decide +kernel
theorem codeN_31 : codeN 31 = 1073741824 := by decide +kernel
theorem tab_i : ∀ i : Fin 257, 1 ≤ lenO.getD i.val 0 ∧ lenO.getD i.val 0 ≤ 30 ∧ codO.getD i.val 0 = fstT.getD (lenO.getD i.val 0) 0 + ((i.val : Nat) : Int) - bseT.getD (lenO.getD i.val 0) 0 ∧ bseT.getD (lenO.getD i.val 0) 0 ≤ ((i.val : Nat) : Int) ∧ ((i.val : Nat) : Int) < bseT.getD (lenO.getD i.val 0) 0 + cntT.getD (lenO.getD i.val 0) 0 := by decide +kernel
theorem tab_n : ∀ n : Fin 31, ∀ i : Fin 257, bseT.getD n.val 0 ≤ ((i.val : Nat) : Int) → ((i.val : Nat) : Int) < bseT.getD n.val 0 + cntT.getD n.val 0 → lenO.getD i.val 0 = n.val := by decide +kernel
theorem tab_b : ∀ n : Fin 31, 0 ≤ bseT.getD n.val 0 ∧ 0 ≤ cntT.getD n.val 0 ∧ bseT.getD n.val 0 + cntT.getD n.val 0 ≤ 257 := by decide +kernel
theorem sym_idx : ∀ s : Fin 257, symT.idxOf s.val < 257 ∧ symT.getD (symT.idxOf s.val) 0 = s.val := by decide +kernel
theorem sym_cs {i : Nat} (h : i < 257) : csI (symT.getD i 0) = codO.getD i 0 := by
 obtain ⟨s, hs, _, hs2, _⟩ := sym_at h
 have h1 : (symT.map csI)[i]? = codO[i]? := by rw [codO_is]
 rw [List.getElem?_map, hs, Option.map_some] at h1
 rw [hs2, List.getD_eq_getElem?_getD, ← h1]; rfl
theorem of_find {c n : Int} (h : findY c n = true) : ∃ s : Nat, s < 257 ∧ findS c n = s ∧ csI s = c ∧ szI (s : Int) = n ∧ 1 ≤ n ∧ n ≤ 30 := by
 have h := of_decide_eq_true h
 obtain ⟨h1, h2, h3, h4⟩ := h
 obtain ⟨m, rfl⟩ : ∃ m : Nat, n = m := ⟨n.toNat, by omega⟩
 rw [Int.toNat_natCast] at h3 h4
 obtain ⟨t1, t2, t3⟩ := tab_is ⟨m, by omega⟩
 obtain ⟨b1, b2, b3⟩ := tab_b ⟨m, by omega⟩
 dsimp only at t1 t2 t3 b1 b2 b3
 rw [← t2, ← t3] at b3
 rw [← t3] at b1
 obtain ⟨i, hi⟩ : ∃ i : Nat, bseI m + (c - fstI m) = i := ⟨(bseI m + (c - fstI m)).toNat, by omega⟩
 have hi2 : i < 257 := by omega
 have hn := tab_n ⟨m, by omega⟩ ⟨i, hi2⟩ (by dsimp only; rw [← t3]; omega) (by dsimp only; rw [← t3, ← t2]; omega)
 dsimp only at hn
 obtain ⟨s, e1, e2, e3, e4⟩ := sym_at hi2
 obtain ⟨_, _, e5, _, _⟩ := tab_i ⟨i, hi2⟩
 dsimp only at e5
 rw [hn, ← t1, ← t3] at e5
 refine ⟨s, e2, ?_, ?_, ?_, h1, h2⟩
 ·unfold findS ordB
  rw [Int.toNat_natCast, hi, Int.toNat_natCast, symT_is, e3]
 ·rw [← e3, sym_cs hi2, e5]; omega
 ·rw [e4, hn]
theorem find_of {s : Nat} (h : s < 257) : findY (csI s) (szI (s : Int)) = true ∧ findS (csI s) (szI (s : Int)) = s := by
 obtain ⟨h1, h2⟩ := sym_idx ⟨s, h⟩
 dsimp only at h1 h2
 generalize symT.idxOf s = i at h1 h2
 obtain ⟨s2, e1, e2, e3, e4⟩ := sym_at h1
 rw [h2] at e3
 subst e3
 obtain ⟨t1, t2, t3, t4, t5⟩ := tab_i ⟨i, h1⟩
 dsimp only at t1 t2 t3 t4 t5
 have hc := sym_cs h1
 rw [h2] at hc
 obtain ⟨u1, u2, u3⟩ := tab_is ⟨lenO.getD i 0, by omega⟩
 dsimp only at u1 u2 u3
 rw [← u1, ← u3, ← hc] at t3
 rw [← u3] at t4 t5
 rw [← u2] at t5
 rw [e4]
 refine ⟨decide_eq_true ?_, ?_⟩
 ·rw [Int.toNat_natCast]; omega
 ·unfold findS ordB
  rw [Int.toNat_natCast, symT_is, show bseI (lenO.getD i 0) + (csI s - fstI (lenO.getD i 0)) = (i : Int) from by omega, Int.toNat_natCast, h2]
structure Way (c : Int) (n : Nat) : Prop where
 l : codeN (n + 1) ≤ c
 u : c < 2 ^ n
 n : n ≤ 29
 z : 0 ≤ c
theorem way_0 : Way 0 0 := ⟨by decide +kernel, by decide, by decide, by decide⟩
theorem way_s {c x : Int} {n : Nat} (h : Way c n) (hx : x = 0 ∨ x = 1) (hf : ¬ findY (2 * c + x) ((n : Int) + 1) = true) : Way (2 * c + x) (n + 1) := by
 obtain ⟨h1, h2, h3, h4⟩ := h
 have hf := of_decide_eq_false (show findY (2 * c + x) ((n : Int) + 1) = false by revert hf; cases findY (2 * c + x) ((n : Int) + 1) <;> simp)
 rw [show ((n : Int) + 1).toNat = n + 1 from by omega] at hf
 have e1 : fstI (n + 1) = codeN (n + 1) * 2 := rfl
 have e2 : codeN (n + 1 + 1) = codeN (n + 1) * 2 + cntN 257 (n + 1) := rfl
 have hl : codeN (n + 1 + 1) ≤ 2 * c + x := by omega
 have hu : 2 * c + x < 2 ^ (n + 1) := by rw [Int.pow_succ]; omega
 refine ⟨hl, hu, ?_, by omega⟩
 by_cases h9 : n = 29
 ·exfalso
  subst h9
  have e3 : codeN (29 + 1 + 1) = 1073741824 := codeN_31
  have e4 : (2 : Int) ^ (29 + 1) = 1073741824 := by decide
  omega
 ·omega
def huM : List Int → Int → Nat → List UInt8 → List UInt8 × Int
 | [], c, n, o => if 7 < n ∨ c ≠ 2 ^ n - 1 then ([], 10) else (o, 0)
 | x :: l, c, n, o => if findY (2 * c + x) ((n : Int) + 1) = true then (if findS (2 * c + x) ((n : Int) + 1) = 256 then ([], 11) else huM l 0 0 (o ++ [UInt8.ofNat (findS (2 * c + x) ((n : Int) + 1)).toNat])) else huM l (2 * c + x) (n + 1) o
theorem huM_nil (c : Int) (n : Nat) (o : List UInt8) : huM [] c n o = if 7 < n ∨ c ≠ 2 ^ n - 1 then ([], 10) else (o, 0) := rfl
theorem huM_no {x c : Int} {n : Nat} (l : List Int) (o : List UInt8) (h : ¬ findY (2 * c + x) ((n : Int) + 1) = true) : huM (x :: l) c n o = huM l (2 * c + x) (n + 1) o := by rw [huM, if_neg h]
theorem huM_end {x c : Int} {n : Nat} (l : List Int) (o : List UInt8) (h : findY (2 * c + x) ((n : Int) + 1) = true) (h2 : findS (2 * c + x) ((n : Int) + 1) = 256) : huM (x :: l) c n o = ([], 11) := by rw [huM, if_pos h, if_pos h2]
theorem huM_yes {x c : Int} {n : Nat} (l : List Int) (o : List UInt8) (h : findY (2 * c + x) ((n : Int) + 1) = true) (h2 : ¬ findS (2 * c + x) ((n : Int) + 1) = 256) : huM (x :: l) c n o = huM l 0 0 (o ++ [UInt8.ofNat (findS (2 * c + x) ((n : Int) + 1)).toNat]) := by rw [huM, if_pos h, if_neg h2]
theorem huM_len : ∀ (l : List Int) (c : Int) (n : Nat) (o : List UInt8), (huM l c n o).1.length ≤ l.length + o.length
 | [], c, n, o => by rw [huM_nil]; split <;> simp
 | x :: l, c, n, o => by
  by_cases h : findY (2 * c + x) ((n : Int) + 1) = true
  ·by_cases h2 : findS (2 * c + x) ((n : Int) + 1) = 256
   ·rw [huM_end l o h h2]; simp
   ·rw [huM_yes l o h h2]
    have := huM_len l 0 0 (o ++ [UInt8.ofNat (findS (2 * c + x) ((n : Int) + 1)).toNat])
    rw [List.length_append] at this
    simp at this ⊢; omega
  ·rw [huM_no l o h]
   have := huM_len l (2 * c + x) (n + 1) o
   simp; omega
end Go.Proofs.YtohbfcmmpaikhaaDoor

