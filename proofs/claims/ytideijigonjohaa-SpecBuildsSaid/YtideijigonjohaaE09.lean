import Derived.Test.YtideijigonjohaaE04
set_option linter.unusedVariables false
set_option linter.unusedSimpArgs false
namespace Go.Proofs.Ytideijigonjohaa
open Go Go.Lf Go.Proofs
attribute [local irreducible] Lf.rg Lf.ro Lf.PWp Lf.SOp Lf.ACall Lf.Scoped Lf.dg
set_option maxRecDepth 20000
set_option maxHeartbeats 4000000

theorem esh_field {k : Nat} {y : List AV} (h : Sh Try.prog (k + 2) 53 y) : ∃ f : Fl, y = flA f := by
  simp only [Sh, Try.underlying53, Try.underlying9, Try.underlying4] at h
  obtain ⟨h1, h2⟩ := h
  have a := h2 _ (List.mem_cons_self)
  have b := h2 _ (List.mem_cons_of_mem _ (List.mem_cons_self))
  have c := h2 _ (List.mem_cons_of_mem _ (List.mem_cons_of_mem _ (List.mem_cons_self)))
  simp only [ce9, ce4, Try.underlying9, Try.underlying4] at a b c h1
  obtain ⟨n, _, ha⟩ := a
  obtain ⟨v, _, hb⟩ := b
  obtain ⟨q, hc⟩ := c
  refine ⟨⟨n, v, q⟩, ?_⟩
  rw [ce53] at h1
  match y, h1 with
  | [p1, p2, p3], _ =>
    simp at ha hb hc
    simp [flA, ha, hb, hc]
theorem edas_map {α : Type} {g : α → List AV} : ∀ (ys : List (List AV)), (∀ y ∈ ys, ∃ a, y = g a) → ∃ l : List α, ys = l.map g
  | [], _ => ⟨[], rfl⟩
  | y :: ys, h => by
    obtain ⟨a, rfl⟩ := h y List.mem_cons_self
    obtain ⟨l, rfl⟩ := edas_map ys (fun y hy => h y (List.mem_cons_of_mem _ hy))
    exact ⟨a :: l, rfl⟩
theorem esh_set {k : Nat} {y : List AV} (h : Sh Try.prog (k + 2) 172 y) : ∃ s : Int × Int, y = setA s := by
  simp only [Sh, Try.underlying172, Try.underlying3] at h
  obtain ⟨h1, h2⟩ := h
  have a := h2 _ (List.mem_cons_self)
  have b := h2 _ (List.mem_cons_of_mem _ (List.mem_cons_self))
  simp only [ce3, Try.underlying3] at a b h1
  obtain ⟨n, _, ha⟩ := a
  obtain ⟨m, _, hb⟩ := b
  refine ⟨(n, m), ?_⟩
  rw [ce172] at h1
  match y, h1 with
  | [p, q], _ =>
    simp at ha hb
    simp [setA, ha, hb]
theorem sh_rstep {k : Nat} {y : List AV} (h : Sh Try.prog (k + 4) 115 y) : ∃ s : StL, (s.fl.length ≤ 9223372036854775807 ∧ s.ss.length ≤ 9223372036854775807) ∧ y = stA s := by
  unfold Sh at h
  simp only [Try.underlying115] at h
  obtain ⟨h1, h2⟩ := h
  have a1 := h2 _ (List.mem_cons_self)
  have a2 := h2 _ (List.mem_cons_of_mem _ (List.mem_cons_self))
  have a3 := h2 _ (List.mem_cons_of_mem _ (List.mem_cons_of_mem _ (List.mem_cons_self)))
  have a4 := h2 _ (List.mem_cons_of_mem _ (List.mem_cons_of_mem _ (List.mem_cons_of_mem _ (List.mem_cons_self))))
  have a5 := h2 _ (List.mem_cons_of_mem _ (List.mem_cons_of_mem _ (List.mem_cons_of_mem _ (List.mem_cons_of_mem _ (List.mem_cons_self)))))
  have a6 := h2 _ (List.mem_cons_of_mem _ (List.mem_cons_of_mem _ (List.mem_cons_of_mem _ (List.mem_cons_of_mem _ (List.mem_cons_of_mem _ (List.mem_cons_self))))))
  simp only [Sh, Try.underlying3, ce3] at a1 a2 a3
  simp only [Sh, Try.underlying4, ce4] at a4
  unfold Sh at a5 a6
  simp only [Try.underlying62, ce62] at a5
  simp only [Try.underlying22, ce22] at a6
  obtain ⟨n1, _, e1⟩ := a1
  obtain ⟨n2, _, e2⟩ := a2
  obtain ⟨n3, _, e3⟩ := a3
  obtain ⟨b, e4⟩ := a4
  obtain ⟨ys, hl, hy, e5⟩ := a5
  obtain ⟨zs, hl2, hz, e6⟩ := a6
  obtain ⟨fl, rfl⟩ := edas_map (g := flA) ys (fun y h => esh_field (k := k) (hy y h))
  obtain ⟨ss, rfl⟩ := edas_map (g := setA) zs (fun y h => esh_set (k := k) (hz y h))
  refine ⟨⟨n1, n2, n3, b, fl, ss⟩, ⟨by simpa [maxLen] using hl, by simpa [maxLen] using hl2⟩, ?_⟩
  rw [ce115] at h1
  match y, h1 with
  | [p1, p2, p3, p4, p5, p6], _ =>
    simp at e1 e2 e3 e4 e5 e6
    simp [stA, e1, e2, e3, e4, e5, e6]
theorem edas_map_p {α : Type} {g : α → List AV} {p : α → Prop} : ∀ (ys : List (List AV)), (∀ y ∈ ys, ∃ a, p a ∧ y = g a) → ∃ l : List α, (∀ a ∈ l, p a) ∧ ys = l.map g
  | [], _ => ⟨[], by simp, rfl⟩
  | y :: ys, h => by
    obtain ⟨a, ha, rfl⟩ := h y List.mem_cons_self
    obtain ⟨l, hl, rfl⟩ := edas_map_p ys (fun y hy => h y (List.mem_cons_of_mem _ hy))
    refine ⟨a :: l, ?_, rfl⟩
    intro b hb
    rw [List.mem_cons] at hb
    rcases hb with rfl | hb
    · exact ha
    · exact hl b hb
theorem sh_scen {k : Nat} {y : List AV} (h : Sh Try.prog (k + 6) 113 y) : ∃ (side wk ws : Int) (L : List StL), L.length ≤ 9223372036854775807 ∧ inS L ∧ y = [i64 side, .sl false false (L.map stA), i64 wk, i64 ws] := by
  unfold Sh at h
  simp only [Try.underlying113] at h
  obtain ⟨h1, h2⟩ := h
  have a1 := h2 _ (List.mem_cons_self)
  have a2 := h2 _ (List.mem_cons_of_mem _ (List.mem_cons_self))
  have a3 := h2 _ (List.mem_cons_of_mem _ (List.mem_cons_of_mem _ (List.mem_cons_self)))
  simp only [Sh, Try.underlying3, ce3] at a1
  unfold Sh at a2 a3
  simp only [Try.underlying109, ce109] at a2
  simp only [Try.underlying111, ce111] at a3
  obtain ⟨h3, h4⟩ := a3
  have b1 := h4 _ (List.mem_cons_self)
  have b2 := h4 _ (List.mem_cons_of_mem _ (List.mem_cons_self))
  simp only [Sh, Try.underlying3, ce3] at b1 b2
  obtain ⟨n1, _, e1⟩ := a1
  obtain ⟨ys, hl, hy, e2⟩ := a2
  obtain ⟨n2, _, e3⟩ := b1
  obtain ⟨n3, _, e4⟩ := b2
  obtain ⟨L, hL, rfl⟩ := edas_map_p (g := stA) (p := fun s => s.fl.length ≤ 9223372036854775807 ∧ s.ss.length ≤ 9223372036854775807) ys (fun y h => sh_rstep (k := k) (hy y h))
  refine ⟨n1, n2, n3, L, by simpa [maxLen] using hl, hL, ?_⟩
  rw [ce113] at h1
  match y, h1 with
  | [p1, p2, p3, p4], _ =>
    simp at e1 e2 e3 e4
    simp [e1, e2, e3, e4]
theorem in_scen {w : World} {v : Value} {k : Nat} (h : ∃ xs, Sh Try.prog (k + 6) 113 xs ∧ ((∃ x, xs = [x] ∧ VR [] rz0 w x v) ∨ VR [] rz0 w (.ag xs) v)) :
    ∃ (side wk ws : Int) (L : List StL), L.length ≤ 9223372036854775807 ∧ inS L ∧ VR [] rz0 w (.ag [i64 side, .sl false false (L.map stA), i64 wk, i64 ws]) v := by
  obtain ⟨xs, h1, h2⟩ := h
  obtain ⟨side, wk, ws, L, hl, hb, rfl⟩ := sh_scen h1
  rcases h2 with ⟨x, hx, _⟩ | h2
  · simp at hx
  · exact ⟨side, wk, ws, L, hl, hb, h2⟩
theorem in_rstep {w : World} {v : Value} {k : Nat} (h : ∃ xs, Sh Try.prog (k + 4) 115 xs ∧ ((∃ x, xs = [x] ∧ VR [] rz0 w x v) ∨ VR [] rz0 w (.ag xs) v)) :
    ∃ s : StL, (s.fl.length ≤ 9223372036854775807 ∧ s.ss.length ≤ 9223372036854775807) ∧ VR [] rz0 w (.ag (stA s)) v := by
  obtain ⟨xs, h1, h2⟩ := h
  obtain ⟨s, hb, rfl⟩ := sh_rstep h1
  rcases h2 with ⟨x, hx, _⟩ | h2
  · simp [stA] at hx
  · exact ⟨s, hb, h2⟩
end Go.Proofs.Ytideijigonjohaa
