import Derived.Test.YtohbfcmmpaikhaaK24
import Derived.Test.YtohbfcmmpaikhaaLb
set_option linter.unusedVariables false
set_option linter.unusedSimpArgs false
namespace Go.Proofs.Ytohbfcmmpaikhaa
open Go Go.Lf Go.Proofs
attribute [local irreducible] Lf.rg Lf.ro Lf.PWp Lf.SOp Lf.ACall Lf.Scoped Lf.dg
set_option maxRecDepth 20000
set_option maxHeartbeats 4000000
theorem in_str {w : World} {s : ByteArray} {k : Nat} (h : ∃ xs, Sh Try.prog (k + 1) 9 xs ∧ ((∃ x, xs = [x] ∧ VR [] rz0 w x (.string s)) ∨ VR [] rz0 w (.ag xs) (.string s))) : ∃ l : List UInt8, s = ⟨l.toArray⟩ ∧ l.length ≤ 9223372036854775807 := by
  obtain ⟨xs, h1, h2⟩ := h
  simp only [Sh, Try.underlying9] at h1
  obtain ⟨m, hw, rfl⟩ := h1
  obtain ⟨⟨l⟩⟩ := s
  refine ⟨l, rfl, ?_⟩
  rcases h2 with ⟨x, hx, hv⟩ | hv
  · simp at hx
    subst hx
    simp only [VR] at hv
    injection hv with hv
    subst hv
    have h3 : l.length ≤ maxLen := hw
    simpa [maxLen] using h3
  · simp [VR] at hv
end Go.Proofs.Ytohbfcmmpaikhaa
