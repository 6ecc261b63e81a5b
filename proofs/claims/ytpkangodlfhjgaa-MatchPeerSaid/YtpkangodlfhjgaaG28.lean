import Derived.Test.YtpkangodlfhjgaaF44
import Derived.Test.YtpkangodlfhjgaaLb
set_option linter.unusedVariables false
set_option linter.unusedSimpArgs false
namespace Go.Proofs.Ytpkangodlfhjgaa
open Go Go.Lf Go.Proofs
attribute [local irreducible] Lf.rg Lf.ro Lf.PWp Lf.SOp Lf.ACall Lf.Scoped Lf.dg
set_option maxRecDepth 20000
set_option maxHeartbeats 4000000
theorem in_intb {w : World} {n : Int} {k : Nat} (h : ∃ xs, Sh Try.prog (k + 1) 3 xs ∧ ((∃ x, xs = [x] ∧ VR [] rz0 w x (.int .i64 n)) ∨ VR [] rz0 w (.ag xs) (.int .i64 n))) : n ≤ 9223372036854775807 := by
  obtain ⟨xs, h1, h2⟩ := h
  simp only [Sh, Try.underlying3] at h1
  obtain ⟨m, hw, rfl⟩ := h1
  simp only [Lit.wf, IntKind.min, IntKind.max, IntKind.signed, IntKind.bits, Bool.and_eq_true, decide_eq_true_eq, if_true] at hw
  rcases h2 with ⟨x, hx, hv⟩ | hv
  · simp at hx
    subst hx
    simp [VR] at hv
    omega
  · simp [VR] at hv
theorem in_u16 {w : World} {n : Int} {k : Nat} (h : ∃ xs, Sh Try.prog (k + 1) 70 xs ∧ ((∃ x, xs = [x] ∧ VR [] rz0 w x (.int .u16 n)) ∨ VR [] rz0 w (.ag xs) (.int .u16 n))) : 0 ≤ n ∧ n ≤ 65535 := by
  obtain ⟨xs, h1, h2⟩ := h
  simp only [Sh, Try.underlying70] at h1
  obtain ⟨m, hw, rfl⟩ := h1
  simp only [Lit.wf, IntKind.min, IntKind.max, IntKind.signed, IntKind.bits, Bool.and_eq_true, decide_eq_true_eq] at hw
  rcases h2 with ⟨x, hx, hv⟩ | hv
  · simp at hx
    subst hx
    simp [VR] at hv
    simp at hw
    omega
  · simp [VR] at hv
end Go.Proofs.Ytpkangodlfhjgaa
