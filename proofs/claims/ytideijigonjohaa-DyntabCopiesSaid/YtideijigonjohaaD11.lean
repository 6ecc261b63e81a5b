import Derived.Test.YtideijigonjohaaD07
set_option linter.unusedVariables false
set_option linter.unusedSimpArgs false
namespace Go.Proofs.Ytideijigonjohaa
open Go Go.Lf Go.Proofs
attribute [local irreducible] Lf.rg Lf.ro Lf.PWp Lf.SOp Lf.ACall Lf.Scoped Lf.dg
set_option maxRecDepth 20000
set_option maxHeartbeats 4000000

theorem sh_field {k : Nat} {y : List AV} (h : Sh Try.prog (k + 2) 53 y) : ∃ f : Fl, y = flA f := by
  simp only [Sh, Try.underlying53, Try.underlying9, Try.underlying4] at h
  obtain ⟨h1, h2⟩ := h
  have a := h2 _ (List.mem_cons_self)
  have b := h2 _ (List.mem_cons_of_mem _ (List.mem_cons_self))
  have c := h2 _ (List.mem_cons_of_mem _ (List.mem_cons_of_mem _ (List.mem_cons_self)))
  simp only [ce9, ce4, Try.underlying9, Try.underlying4] at a b c h1
  obtain ⟨n, _, ha⟩ := a
  obtain ⟨v, _, hb⟩ := b
  obtain ⟨q, hc⟩ := c
  refine ⟨⟨n, v, q⟩, ?_⟩
  rw [ce53] at h1
  match y, h1 with
  | [p1, p2, p3], _ =>
    simp at ha hb hc
    simp [flA, ha, hb, hc]
theorem sh_dd {k : Nat} {y : List AV} (h : Sh Try.prog (k + 3) 55 y) : ∃ d : Dd, y = ddA d := by
  unfold Sh at h
  simp only [Try.underlying55] at h
  obtain ⟨h1, h2⟩ := h
  have a := h2 _ (List.mem_cons_self)
  have b := h2 _ (List.mem_cons_of_mem _ (List.mem_cons_self))
  obtain ⟨f, ha⟩ := sh_field (k := k) a
  simp only [Sh, Try.underlying3, ce3] at b
  simp only [ce53] at ha
  obtain ⟨n, _, hb⟩ := b
  refine ⟨⟨f, n⟩, ?_⟩
  rw [ce55] at h1
  match y, h1 with
  | [p1, p2, p3, p4], _ =>
    simp [flA] at ha hb
    simp [ddA, ha, hb]
theorem das_map {α : Type} {g : α → List AV} : ∀ (ys : List (List AV)), (∀ y ∈ ys, ∃ a, y = g a) → ∃ l : List α, ys = l.map g
  | [], _ => ⟨[], rfl⟩
  | y :: ys, h => by
    obtain ⟨a, rfl⟩ := h y List.mem_cons_self
    obtain ⟨l, rfl⟩ := das_map ys (fun y hy => h y (List.mem_cons_of_mem _ hy))
    exact ⟨a :: l, rfl⟩
theorem in_dds {w : World} {a : Option Addr} {l c k : Nat} (h : ∃ xs, Sh Try.prog (k + 4) 47 xs ∧ ((∃ x, xs = [x] ∧ VR [] rz0 w x (.slice a l c)) ∨ VR [] rz0 w (.ag xs) (.slice a l c))) :
    ∃ s : List Dd, s.length ≤ 9223372036854775807 ∧ VR [] rz0 w (.sl false false (s.map ddA)) (.slice a l c) := by
  obtain ⟨ys, h1, h2, h3⟩ := in_sl Try.underlying47 h
  obtain ⟨b, rfl⟩ := das_map (g := ddA) ys (fun y hy => sh_dd (h2 y hy))
  exact ⟨b, by simpa [maxLen] using h1, h3⟩
end Go.Proofs.Ytideijigonjohaa
