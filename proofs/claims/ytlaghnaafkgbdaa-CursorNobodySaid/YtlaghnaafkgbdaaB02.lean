import Derived.Test.YtlaghnaafkgbdaaA09
import Derived.Test.YtlaghnaafkgbdaaLb
set_option linter.unusedVariables false
set_option linter.unusedSimpArgs false
namespace Go.Proofs.Ytlaghnaafkgbdaa
open Go Go.Lf Go.Proofs
attribute [local irreducible] Lf.rg Lf.ro Lf.PWp Lf.SOp Lf.ACall Lf.Scoped Lf.dg

theorem sh_step {k : Nat} {y : List AV} (h : Sh Try.prog (k + 2) 67 y) : ∃ s : Int × Int, y = stepA s := by
  simp only [Sh, Try.underlying67, Try.underlying3] at h
  obtain ⟨h1, h2⟩ := h
  have a := h2 _ (List.mem_cons_self)
  have b := h2 _ (List.mem_cons_of_mem _ (List.mem_cons_self))
  simp only [ce3, Try.underlying3] at a b h1
  obtain ⟨n, _, ha⟩ := a
  obtain ⟨m, _, hb⟩ := b
  refine ⟨(n, m), ?_⟩
  rw [ce67] at h1
  match y, h1 with
  | [p, q], _ =>
    simp at ha hb
    simp [stepA, ha, hb]
theorem in_steps {w : World} {a : Option Addr} {l c k : Nat} (h : ∃ xs, Sh Try.prog (k + 3) 65 xs ∧ ((∃ x, xs = [x] ∧ VR [] rz0 w x (.slice a l c)) ∨ VR [] rz0 w (.ag xs) (.slice a l c))) :
    ∃ s : List (Int × Int), s.length ≤ 9223372036854775807 ∧ VR [] rz0 w (.sl false false (s.map stepA)) (.slice a l c) := by
  obtain ⟨ys, h1, h2, h3⟩ := in_sl Try.underlying65 h
  obtain ⟨b, rfl⟩ := as_map (g := stepA) ys (fun y hy => sh_step (h2 y hy))
  exact ⟨b, by simpa [maxLen] using h1, h3⟩
end Go.Proofs.Ytlaghnaafkgbdaa
