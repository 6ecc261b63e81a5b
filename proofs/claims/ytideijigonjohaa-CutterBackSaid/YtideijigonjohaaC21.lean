import Derived.Test.YtideijigonjohaaC19
import Derived.Test.YtideijigonjohaaC17
set_option linter.unusedVariables false
set_option linter.unusedSimpArgs false
namespace Go.Proofs.Ytideijigonjohaa
open Go Go.Lf Go.Proofs
attribute [local irreducible] Lf.rg Lf.ro Lf.PWp Lf.SOp Lf.ACall Lf.Scoped Lf.dg
set_option maxRecDepth 20000
set_option maxHeartbeats 4000000
theorem sh_raw {k : Nat} {y : List AV} (h : Sh Try.prog (k + 4) 133 y) : ∃ c : Fr, c.b.length ≤ 9223372036854775807 ∧ y = frA c := by
  simp only [Sh, Try.underlying133, Try.underlying3, Try.underlying4, Try.underlying33] at h
  obtain ⟨h1, h2⟩ := h
  have a := h2 _ (List.mem_cons_self)
  have b := h2 _ (List.mem_cons_of_mem _ (List.mem_cons_self))
  have c := h2 _ (List.mem_cons_of_mem _ (List.mem_cons_of_mem _ (List.mem_cons_self)))
  have d := h2 _ (List.mem_cons_of_mem _ (List.mem_cons_of_mem _ (List.mem_cons_of_mem _ (List.mem_cons_self))))
  have e := h2 _ (List.mem_cons_of_mem _ (List.mem_cons_of_mem _ (List.mem_cons_of_mem _ (List.mem_cons_of_mem _ (List.mem_cons_self)))))
  have f := h2 _ (List.mem_cons_of_mem _ (List.mem_cons_of_mem _ (List.mem_cons_of_mem _ (List.mem_cons_of_mem _ (List.mem_cons_of_mem _ (List.mem_cons_self))))))
  simp only [ce3, ce4, ce33, Try.underlying3, Try.underlying4, Try.underlying33] at a b c d e f h1
  obtain ⟨n1, _, ha⟩ := a
  obtain ⟨n2, _, hb⟩ := b
  obtain ⟨n3, _, hc⟩ := c
  obtain ⟨n4, _, hd⟩ := d
  obtain ⟨n5, he⟩ := e
  obtain ⟨ys, hl, hy, hf⟩ := f
  obtain ⟨bs, rfl⟩ := as_map (g := byteA) ys (fun y h => sh_byte (k := k + 1) Try.underlying5 (hy y h))
  refine ⟨⟨n1, n2, n3, n4, n5, bs⟩, by simpa [maxLen] using hl, ?_⟩
  rw [ce133] at h1
  match y, h1 with
  | [p1, p2, p3, p4, p5, p6], _ =>
    simp at ha hb hc hd he hf
    simp [frA, ha, hb, hc, hd, he, hf]
theorem in_raws {w : World} {a : Option Addr} {l c k : Nat} (h : ∃ xs, Sh Try.prog (k + 5) 153 xs ∧ ((∃ x, xs = [x] ∧ VR [] rz0 w x (.slice a l c)) ∨ VR [] rz0 w (.ag xs) (.slice a l c))) :
    ∃ s : List Fr, s.length ≤ 9223372036854775807 ∧ (∀ r ∈ s, r.b.length ≤ 9223372036854775807) ∧ VR [] rz0 w (.sl false false (s.map frA)) (.slice a l c) := by
  obtain ⟨ys, h1, h2, h3⟩ := in_sl Try.underlying153 h
  obtain ⟨b, hb, rfl⟩ := das_map (g := frA) (p := fun r => r.b.length ≤ 9223372036854775807) ys (fun y hy => sh_raw (k := k) (h2 y hy))
  exact ⟨b, by simpa [maxLen] using h1, hb, h3⟩
end Go.Proofs.Ytideijigonjohaa
