import Derived.Test.YtideijigonjohaaC08
set_option linter.unusedVariables false
set_option linter.unusedSimpArgs false
namespace Go.Proofs.Ytideijigonjohaa
open Go Go.Lf Go.Proofs
attribute [local irreducible] Lf.rg Lf.ro Lf.PWp Lf.SOp Lf.ACall Lf.Scoped Lf.dg
set_option maxRecDepth 20000
set_option maxHeartbeats 4000000
theorem sh_chunk {k : Nat} {y : List AV} (h : Sh Try.prog (k + 4) 152 y) : ∃ c : Ch, c.b.length ≤ 9223372036854775807 ∧ y = chA c := by
  simp only [Sh, Try.underlying152, Try.underlying3, Try.underlying33] at h
  obtain ⟨h1, h2⟩ := h
  have a := h2 _ (List.mem_cons_self)
  have f := h2 _ (List.mem_cons_of_mem _ (List.mem_cons_self))
  simp only [ce3, ce33, Try.underlying3, Try.underlying33] at a f h1
  obtain ⟨n1, _, ha⟩ := a
  obtain ⟨ys, hl, hy, hf⟩ := f
  obtain ⟨bs, rfl⟩ := as_map (g := byteA) ys (fun y h => sh_byte (k := k + 1) Try.underlying5 (hy y h))
  refine ⟨⟨n1, bs⟩, by simpa [maxLen] using hl, ?_⟩
  rw [ce152] at h1
  match y, h1 with
  | [p1, p2], _ =>
    simp at ha hf
    simp [chA, ha, hf]
theorem in_chunk {w : World} {v : Value} {k : Nat} (h : ∃ xs, Sh Try.prog (k + 4) 152 xs ∧ ((∃ x, xs = [x] ∧ VR [] rz0 w x v) ∨ VR [] rz0 w (.ag xs) v)) :
    ∃ c : Ch, c.b.length ≤ 9223372036854775807 ∧ VR [] rz0 w (.ag (chA c)) v := by
  obtain ⟨xs, h1, h2⟩ := h
  obtain ⟨c, hl, rfl⟩ := sh_chunk h1
  rcases h2 with ⟨x, hx, _⟩ | h2
  · simp [chA] at hx
  · exact ⟨c, hl, h2⟩
theorem cdas_map {α : Type} {g : α → List AV} {p : α → Prop} : ∀ (ys : List (List AV)), (∀ y ∈ ys, ∃ a, p a ∧ y = g a) → ∃ l : List α, ys = l.map g
  | [], _ => ⟨[], rfl⟩
  | y :: ys, h => by
    obtain ⟨a, _, rfl⟩ := h y List.mem_cons_self
    obtain ⟨l, rfl⟩ := cdas_map ys (fun y hy => h y (List.mem_cons_of_mem _ hy))
    exact ⟨a :: l, rfl⟩
theorem in_chunks {w : World} {a : Option Addr} {l c k : Nat} (h : ∃ xs, Sh Try.prog (k + 5) 143 xs ∧ ((∃ x, xs = [x] ∧ VR [] rz0 w x (.slice a l c)) ∨ VR [] rz0 w (.ag xs) (.slice a l c))) :
    ∃ s : List Ch, s.length ≤ 9223372036854775807 ∧ VR [] rz0 w (.sl false false (s.map chA)) (.slice a l c) := by
  obtain ⟨ys, h1, h2, h3⟩ := in_sl Try.underlying143 h
  obtain ⟨b, rfl⟩ := cdas_map (g := chA) (p := fun c => c.b.length ≤ 9223372036854775807) ys (fun y hy => sh_chunk (k := k) (h2 y hy))
  exact ⟨b, by simpa [maxLen] using h1, h3⟩
end Go.Proofs.Ytideijigonjohaa
