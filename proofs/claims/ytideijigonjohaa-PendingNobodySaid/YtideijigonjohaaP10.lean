import Derived.Test.YtideijigonjohaaP06
set_option linter.unusedVariables false
set_option linter.unusedSimpArgs false
namespace Go.Proofs.Ytideijigonjohaa
open Go Go.Lf Go.Proofs
attribute [local irreducible] Lf.rg Lf.ro Lf.PWp Lf.SOp Lf.ACall Lf.Scoped Lf.dg
set_option maxRecDepth 20000
set_option maxHeartbeats 4000000

theorem in_deed {w : World} {v : Value} {k : Nat} (h : ∃ xs, Sh Try.prog (k + 5) 76 xs ∧ ((∃ x, xs = [x] ∧ VR [] rz0 w x v) ∨ VR [] rz0 w (.ag xs) v)) :
    ∃ (n : Int) (li : List (Int × Int)) (may : List Bool), li.length ≤ 9223372036854775807 ∧ may.length ≤ 9223372036854775807 ∧ VR [] rz0 w (.ag [i64 n, .sl false false (li.map setA), .sl false false (may.map boolA)]) v := by
  obtain ⟨xs, h1, h2⟩ := h
  obtain ⟨⟨n, li, may⟩, ⟨hl, hm⟩, rfl⟩ := sh_deed h1
  rcases h2 with ⟨x, hx, _⟩ | h2
  · simp [deedA] at hx
  · exact ⟨n, li, may, hl, hm, h2⟩
end Go.Proofs.Ytideijigonjohaa
