import Derived.Test.YtideijigonjohaaP03
set_option linter.unusedVariables false
set_option linter.unusedSimpArgs false
namespace Go.Proofs.Ytideijigonjohaa
open Go Go.Lf Go.Proofs
attribute [local irreducible] Lf.rg Lf.ro Lf.PWp Lf.SOp Lf.ACall Lf.Scoped Lf.dg
set_option maxRecDepth 20000
set_option maxHeartbeats 4000000

theorem sh_set' {k : Nat} {y : List AV} (h : Sh Try.prog (k + 2) 172 y) : ∃ s : Int × Int, y = setA s := by
  simp only [Sh, Try.underlying172, Try.underlying3] at h
  obtain ⟨h1, h2⟩ := h
  have a := h2 _ (List.mem_cons_self)
  have b := h2 _ (List.mem_cons_of_mem _ (List.mem_cons_self))
  simp only [ce3, Try.underlying3] at a b h1
  obtain ⟨n, _, ha⟩ := a
  obtain ⟨m, _, hb⟩ := b
  refine ⟨(n, m), ?_⟩
  rw [ce172] at h1
  match y, h1 with
  | [p, q], _ =>
    simp at ha hb
    simp [setA, ha, hb]
theorem sh_bool {k : Nat} {y : List AV} (h : Sh Try.prog (k + 1) 4 y) : ∃ b : Bool, y = boolA b := by
  simp only [Sh, Try.underlying4] at h
  obtain ⟨b, hb⟩ := h
  exact ⟨b, hb⟩
theorem sh_deed {k : Nat} {y : List AV} (h : Sh Try.prog (k + 5) 76 y) : ∃ d : Deed, (d.li.length ≤ 9223372036854775807 ∧ d.may.length ≤ 9223372036854775807) ∧ y = deedA d := by
  simp only [Sh, Try.underlying76, Try.underlying3, Try.underlying22, Try.underlying74] at h
  obtain ⟨h1, h2⟩ := h
  have a := h2 _ (List.mem_cons_self)
  have b := h2 _ (List.mem_cons_of_mem _ (List.mem_cons_self))
  have c := h2 _ (List.mem_cons_of_mem _ (List.mem_cons_of_mem _ (List.mem_cons_self)))
  simp only [ce3, ce22, ce74, Try.underlying3, Try.underlying22, Try.underlying74] at a b c h1
  obtain ⟨n1, _, ha⟩ := a
  obtain ⟨ys, hl, hy, hb⟩ := b
  obtain ⟨zs, hl2, hz, hc⟩ := c
  obtain ⟨li, rfl⟩ := as_map (g := setA) ys (fun y h => sh_set' (k := k + 1) (hy y h))
  obtain ⟨may, rfl⟩ := as_map (g := boolA) zs (fun y h => sh_bool (k := k + 2) (hz y h))
  refine ⟨⟨n1, li, may⟩, ⟨by simpa [maxLen] using hl, by simpa [maxLen] using hl2⟩, ?_⟩
  rw [ce76] at h1
  match y, h1 with
  | [p1, p2, p3], _ =>
    simp at ha hb hc
    simp [deedA, ha, hb, hc]
theorem as_map_p {α : Type} {g : α → List AV} {p : α → Prop} : ∀ (ys : List (List AV)), (∀ y ∈ ys, ∃ a, p a ∧ y = g a) → ∃ l : List α, (∀ a ∈ l, p a) ∧ ys = l.map g
  | [], _ => ⟨[], by simp, rfl⟩
  | y :: ys, h => by
    obtain ⟨a, ha, rfl⟩ := h y List.mem_cons_self
    obtain ⟨l, hl, rfl⟩ := as_map_p ys (fun y hy => h y (List.mem_cons_of_mem _ hy))
    refine ⟨a :: l, ?_, rfl⟩
    intro b hb
    rw [List.mem_cons] at hb
    rcases hb with rfl | hb
    · exact ha
    · exact hl b hb
theorem in_deeds {w : World} {a : Option Addr} {l c k : Nat} (h : ∃ xs, Sh Try.prog (k + 6) 65 xs ∧ ((∃ x, xs = [x] ∧ VR [] rz0 w x (.slice a l c)) ∨ VR [] rz0 w (.ag xs) (.slice a l c))) :
    ∃ s : List Deed, s.length ≤ 9223372036854775807 ∧ (∀ d ∈ s, d.li.length ≤ 9223372036854775807 ∧ d.may.length ≤ 9223372036854775807) ∧ VR [] rz0 w (.sl false false (s.map deedA)) (.slice a l c) := by
  obtain ⟨ys, h1, h2, h3⟩ := in_sl Try.underlying65 h
  obtain ⟨b, hb, rfl⟩ := as_map_p (g := deedA) (p := fun d => d.li.length ≤ 9223372036854775807 ∧ d.may.length ≤ 9223372036854775807) ys (fun y hy => sh_deed (h2 y hy))
  exact ⟨b, by simpa [maxLen] using h1, hb, h3⟩
end Go.Proofs.Ytideijigonjohaa
