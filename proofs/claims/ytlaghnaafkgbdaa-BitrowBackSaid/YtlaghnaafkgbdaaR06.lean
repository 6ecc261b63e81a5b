import Derived.Test.YtlaghnaafkgbdaaR05
set_option linter.unusedVariables false
set_option linter.unusedSimpArgs false
namespace Go.Proofs.Ytlaghnaafkgbdaa
open Go Go.Lf Go.Proofs
attribute [local irreducible] Lf.rg Lf.ro Lf.PWp Lf.SOp Lf.ACall Lf.Scoped Lf.dg
set_option maxRecDepth 20000
set_option maxHeartbeats 4000000

theorem sh_int {k : Nat} {y : List AV} (h : Sh Try.prog (k + 1) 3 y) : ∃ n : Int, y = intA n := by
  simp only [Sh, Try.underlying3] at h
  obtain ⟨n, _, hn⟩ := h
  exact ⟨n, hn⟩
theorem in_ints {w : World} {a : Option Addr} {l c k : Nat} (h : ∃ xs, Sh Try.prog (k + 2) 48 xs ∧ ((∃ x, xs = [x] ∧ VR [] rz0 w x (.slice a l c)) ∨ VR [] rz0 w (.ag xs) (.slice a l c))) :
    ∃ s : List Int, s.length ≤ 9223372036854775807 ∧ VR [] rz0 w (.sl false false (s.map intA)) (.slice a l c) := by
  obtain ⟨ys, h1, h2, h3⟩ := in_sl Try.underlying48 h
  obtain ⟨b, rfl⟩ := as_map (g := intA) ys (fun y hy => sh_int (h2 y hy))
  exact ⟨b, by simpa [maxLen] using h1, h3⟩
theorem sh_put {k : Nat} {y : List AV} (h : Sh Try.prog (k + 2) 62 y) : ∃ s : Int × Int, y = putA s := by
  simp only [Sh, Try.underlying62, Try.underlying3] at h
  obtain ⟨h1, h2⟩ := h
  have a := h2 _ (List.mem_cons_self)
  have b := h2 _ (List.mem_cons_of_mem _ (List.mem_cons_self))
  simp only [ce3, Try.underlying3] at a b h1
  obtain ⟨n, _, ha⟩ := a
  obtain ⟨m, _, hb⟩ := b
  refine ⟨(n, m), ?_⟩
  rw [ce62] at h1
  match y, h1 with
  | [p, q], _ =>
    simp at ha hb
    simp [putA, ha, hb]
theorem in_puts {w : World} {a : Option Addr} {l c k : Nat} (h : ∃ xs, Sh Try.prog (k + 3) 58 xs ∧ ((∃ x, xs = [x] ∧ VR [] rz0 w x (.slice a l c)) ∨ VR [] rz0 w (.ag xs) (.slice a l c))) :
    ∃ s : List (Int × Int), s.length ≤ 9223372036854775807 ∧ VR [] rz0 w (.sl false false (s.map putA)) (.slice a l c) := by
  obtain ⟨ys, h1, h2, h3⟩ := in_sl Try.underlying58 h
  obtain ⟨b, rfl⟩ := as_map (g := putA) ys (fun y hy => sh_put (h2 y hy))
  exact ⟨b, by simpa [maxLen] using h1, h3⟩
end Go.Proofs.Ytlaghnaafkgbdaa
