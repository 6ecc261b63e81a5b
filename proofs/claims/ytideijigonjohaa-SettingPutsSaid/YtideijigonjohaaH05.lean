import Derived.Test.YtideijigonjohaaH04
set_option linter.unusedVariables false
set_option linter.unusedSimpArgs false
namespace Go.Proofs.Ytideijigonjohaa
open Go Go.Lf Go.Proofs
attribute [local irreducible] Lf.rg Lf.ro Lf.PWp Lf.SOp Lf.ACall Lf.Scoped Lf.dg
set_option maxRecDepth 20000
set_option maxHeartbeats 4000000

theorem sh_set {k : Nat} {y : List AV} (h : Sh Try.prog (k + 2) 172 y) : ∃ s : Int × Int, y = setA s := by
  simp only [Sh, Try.underlying172, Try.underlying3] at h
  obtain ⟨h1, h2⟩ := h
  have a := h2 _ (List.mem_cons_self)
  have b := h2 _ (List.mem_cons_of_mem _ (List.mem_cons_self))
  simp only [ce3, Try.underlying3] at a b h1
  obtain ⟨n, _, ha⟩ := a
  obtain ⟨m, _, hb⟩ := b
  refine ⟨(n, m), ?_⟩
  rw [ce172] at h1
  match y, h1 with
  | [p, q], _ =>
    simp at ha hb
    simp [setA, ha, hb]
theorem in_sets {w : World} {a : Option Addr} {l c k : Nat} (h : ∃ xs, Sh Try.prog (k + 3) 22 xs ∧ ((∃ x, xs = [x] ∧ VR [] rz0 w x (.slice a l c)) ∨ VR [] rz0 w (.ag xs) (.slice a l c))) :
    ∃ s : List (Int × Int), s.length ≤ 9223372036854775807 ∧ VR [] rz0 w (.sl false false (s.map setA)) (.slice a l c) := by
  obtain ⟨ys, h1, h2, h3⟩ := in_sl Try.underlying22 h
  obtain ⟨b, rfl⟩ := as_map (g := setA) ys (fun y hy => sh_set (h2 y hy))
  exact ⟨b, by simpa [maxLen] using h1, h3⟩
theorem sh_vals {k : Nat} {y : List AV} (h : Sh Try.prog (k + 2) 30 y) : ∃ v : Vals, y = valsA v := by
  simp only [Sh, Try.underlying30, Try.underlying3] at h
  obtain ⟨h1, h2⟩ := h
  have a := h2 _ (List.mem_cons_self)
  have b := h2 _ (List.mem_cons_of_mem _ (List.mem_cons_self))
  have c := h2 _ (List.mem_cons_of_mem _ (List.mem_cons_of_mem _ (List.mem_cons_self)))
  have d := h2 _ (List.mem_cons_of_mem _ (List.mem_cons_of_mem _ (List.mem_cons_of_mem _ (List.mem_cons_self))))
  have e := h2 _ (List.mem_cons_of_mem _ (List.mem_cons_of_mem _ (List.mem_cons_of_mem _ (List.mem_cons_of_mem _ (List.mem_cons_self)))))
  have f := h2 _ (List.mem_cons_of_mem _ (List.mem_cons_of_mem _ (List.mem_cons_of_mem _ (List.mem_cons_of_mem _ (List.mem_cons_of_mem _ (List.mem_cons_self))))))
  simp only [ce3, Try.underlying3] at a b c d e f h1
  obtain ⟨n1, _, ha⟩ := a
  obtain ⟨n2, _, hb⟩ := b
  obtain ⟨n3, _, hc⟩ := c
  obtain ⟨n4, _, hd⟩ := d
  obtain ⟨n5, _, he⟩ := e
  obtain ⟨n6, _, hf⟩ := f
  refine ⟨⟨n1, n2, n3, n4, n5, n6⟩, ?_⟩
  rw [ce30] at h1
  match y, h1 with
  | [p1, p2, p3, p4, p5, p6], _ =>
    simp at ha hb hc hd he hf
    simp [valsA, ha, hb, hc, hd, he, hf]
theorem in_vals {w : World} {v : Value} {k : Nat} (hv : ∃ cs, v = .agg cs) (h : ∃ xs, Sh Try.prog (k + 2) 30 xs ∧ ((∃ x, xs = [x] ∧ VR [] rz0 w x v) ∨ VR [] rz0 w (.ag xs) v)) :
    ∃ s : Vals, VR [] rz0 w (.ag (valsA s)) v := by
  obtain ⟨xs, h1, h2⟩ := h
  obtain ⟨s, rfl⟩ := sh_vals h1
  rcases h2 with ⟨x, hx, _⟩ | h2
  · simp [valsA] at hx
  · exact ⟨s, h2⟩
end Go.Proofs.Ytideijigonjohaa
