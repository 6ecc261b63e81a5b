import Derived.Test.YtideijigonjohaaH08
set_option linter.unusedVariables false
set_option linter.unusedSimpArgs false
namespace Go.Proofs.Ytideijigonjohaa
open Go Go.Lf Go.Proofs
attribute [local irreducible] Lf.rg Lf.ro Lf.PWp Lf.SOp Lf.ACall Lf.Scoped Lf.dg
set_option maxRecDepth 20000
set_option maxHeartbeats 4000000

theorem sh_hd {k : Nat} {y : List AV} (h : Sh Try.prog (k + 2) 92 y) : ∃ (l t g s : Int) (r : Bool), y = [i64 l, i64 t, i64 g, i64 s, bl r] := by
  simp only [Sh, Try.underlying92, Try.underlying3, Try.underlying4] at h
  obtain ⟨h1, h2⟩ := h
  have a := h2 _ (List.mem_cons_self)
  have b := h2 _ (List.mem_cons_of_mem _ (List.mem_cons_self))
  have c := h2 _ (List.mem_cons_of_mem _ (List.mem_cons_of_mem _ (List.mem_cons_self)))
  have d := h2 _ (List.mem_cons_of_mem _ (List.mem_cons_of_mem _ (List.mem_cons_of_mem _ (List.mem_cons_self))))
  have e := h2 _ (List.mem_cons_of_mem _ (List.mem_cons_of_mem _ (List.mem_cons_of_mem _ (List.mem_cons_of_mem _ (List.mem_cons_self)))))
  simp only [ce3, ce4, Try.underlying3, Try.underlying4] at a b c d e h1
  obtain ⟨n1, _, ha⟩ := a
  obtain ⟨n2, _, hb⟩ := b
  obtain ⟨n3, _, hc⟩ := c
  obtain ⟨n4, _, hd⟩ := d
  obtain ⟨n5, he⟩ := e
  refine ⟨n1, n2, n3, n4, n5, ?_⟩
  rw [ce92] at h1
  match y, h1 with
  | [p1, p2, p3, p4, p5], _ =>
    simp at ha hb hc hd he
    simp [ha, hb, hc, hd, he]
theorem in_hd {w : World} {v : Value} {k : Nat} (h : ∃ xs, Sh Try.prog (k + 2) 92 xs ∧ ((∃ x, xs = [x] ∧ VR [] rz0 w x v) ∨ VR [] rz0 w (.ag xs) v)) :
    ∃ (l t g s : Int) (r : Bool), VR [] rz0 w (.ag [i64 l, i64 t, i64 g, i64 s, bl r]) v := by
  obtain ⟨xs, h1, h2⟩ := h
  obtain ⟨l, t, g, s, r, rfl⟩ := sh_hd h1
  rcases h2 with ⟨x, hx, _⟩ | h2
  · simp at hx
  · exact ⟨l, t, g, s, r, h2⟩
end Go.Proofs.Ytideijigonjohaa
