import Derived.Test.YtohbfcmmpaikhaaDoorQ08
import Derived.Test.YtohbfcmmpaikhaaDoorL01
import Derived.Test.YtohbfcmmpaikhaaDoorLb
set_option linter.unusedVariables false
set_option linter.unusedSimpArgs false
namespace Go.Proofs.YtohbfcmmpaikhaaDoor
open Go Go.Lf Go.Proofs
attribute [local irreducible] Lf.rg Lf.ro Lf.PWp Lf.SOp Lf.ACall Lf.Scoped Lf.dg
set_option maxRecDepth 20000
set_option maxHeartbeats 4000000
theorem sh_repr {k : Nat} {y : List AV} (h : Sh Tryd.prog (k + 2) 32 y) : ∃ (a b c : Int) (l m : List UInt8) (p q : Bool), y = [i64 a, i64 b, .lit (.string ⟨l.toArray⟩), bl p, .lit (.string ⟨m.toArray⟩), bl q, i64 c] ∧ l.length ≤ 9223372036854775807 ∧ m.length ≤ 9223372036854775807 := by
  simp only [Sh, Tryd.underlying32, Tryd.underlying9, Tryd.underlying4, Tryd.underlying3] at h
  obtain ⟨h1, h2⟩ := h
  have a0 := h2 _ (List.mem_cons_self)
  have a1 := h2 _ (List.mem_cons_of_mem _ (List.mem_cons_self))
  have a2 := h2 _ (List.mem_cons_of_mem _ (List.mem_cons_of_mem _ (List.mem_cons_self)))
  have a3 := h2 _ (List.mem_cons_of_mem _ (List.mem_cons_of_mem _ (List.mem_cons_of_mem _ (List.mem_cons_self))))
  have a4 := h2 _ (List.mem_cons_of_mem _ (List.mem_cons_of_mem _ (List.mem_cons_of_mem _ (List.mem_cons_of_mem _ (List.mem_cons_self)))))
  have a5 := h2 _ (List.mem_cons_of_mem _ (List.mem_cons_of_mem _ (List.mem_cons_of_mem _ (List.mem_cons_of_mem _ (List.mem_cons_of_mem _ (List.mem_cons_self))))))
  have a6 := h2 _ (List.mem_cons_of_mem _ (List.mem_cons_of_mem _ (List.mem_cons_of_mem _ (List.mem_cons_of_mem _ (List.mem_cons_of_mem _ (List.mem_cons_of_mem _ (List.mem_cons_self)))))))
  simp only [ce9, ce4, ce3, Tryd.underlying9, Tryd.underlying4, Tryd.underlying3] at a0 a1 a2 a3 a4 a5 a6 h1
  obtain ⟨n0, _, e0⟩ := a0
  obtain ⟨n1, _, e1⟩ := a1
  obtain ⟨⟨⟨l⟩⟩, hl, e2⟩ := a2
  obtain ⟨p, e3⟩ := a3
  obtain ⟨⟨⟨m⟩⟩, hm, e4⟩ := a4
  obtain ⟨q, e5⟩ := a5
  obtain ⟨n6, _, e6⟩ := a6
  have hl2 : l.length ≤ maxLen := hl
  have hm2 : m.length ≤ maxLen := hm
  rw [ce32] at h1
  refine ⟨n0, n1, n6, l, m, p, q, ?_, by simpa [maxLen] using hl2, by simpa [maxLen] using hm2⟩
  match y, h1 with
  | [y0, y1, y2, y3, y4, y5, y6], _ =>
    simp at e0 e1 e2 e3 e4 e5 e6
    simp [e0, e1, e2, e3, e4, e5, e6]
theorem in_repr {w : World} {v : Value} {k : Nat} (h : ∃ xs, Sh Tryd.prog (k + 2) 32 xs ∧ ((∃ x, xs = [x] ∧ VR [] rz0 w x v) ∨ VR [] rz0 w (.ag xs) v)) :
    ∃ (a b c : Int) (l m : List UInt8) (p q : Bool), VR [] rz0 w (.ag [i64 a, i64 b, .lit (.string ⟨l.toArray⟩), bl p, .lit (.string ⟨m.toArray⟩), bl q, i64 c]) v ∧ l.length ≤ 9223372036854775807 ∧ m.length ≤ 9223372036854775807 := by
  obtain ⟨xs, h1, h2⟩ := h
  obtain ⟨a, b, c, l, m, p, q, rfl, hl, hm⟩ := sh_repr h1
  rcases h2 with ⟨x, hx, hv⟩ | hv
  · simp at hx
  · exact ⟨a, b, c, l, m, p, q, hv, hl, hm⟩
end Go.Proofs.YtohbfcmmpaikhaaDoor
