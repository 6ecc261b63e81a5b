import Derived.Test.YtohbfcmmpaikhaaTy
import Derived.Test.YtohbfcmmpaikhaaLc
import Derived.ScopeJumps
set_option linter.unusedVariables false
set_option linter.unusedSimpArgs false
namespace Go.Proofs.Ytohbfcmmpaikhaa
open Go Go.Lf Go.Proofs
attribute [local irreducible] Lf.rg Lf.ro Lf.PWp Lf.SOp Lf.ACall Lf.Scoped Lf.dg Lf.dw
set_option maxRecDepth 20000
set_option maxHeartbeats 4000000
theorem Wk_E {N n : Nat} {Γ' E : Env} {σ : Sto} (h1 : LeE E Γ') : Wk N n Γ' σ E σ := by
  intro ρ w a hn hf hr
  refine ⟨ρ, ⟨hf.1, hf.2.1, ?_⟩, hr, .refl _ _ _ _ hn⟩
  have key : ∀ (E : Env), LeE E Γ' → ∀ i, VR σ ρ w (Lf.get E i) (a.tmps.getD i undef) := by
    intro E
    induction E with
    | nil => intro _ i; simp [Lf.get, VR]
    | cons p E ih =>
      obtain ⟨k, x⟩ := p
      intro h i
      simp only [LeE] at h
      simp only [Lf.get]
      split
      · rename_i e
        subst e
        obtain ⟨⟨y, hy, hl⟩, _⟩ := h
        have := hf.2.2 i
        rw [hy] at this
        exact hl.VR this
      · exact ih h.2 i
  exact key E h1
end Go.Proofs.Ytohbfcmmpaikhaa
