import Derived.Test.YtideijigonjohaaC16
import Derived.Test.YtideijigonjohaaC13
set_option linter.unusedVariables false
set_option linter.unusedSimpArgs false
namespace Go.Proofs.Ytideijigonjohaa
open Go Go.Lf Go.Proofs
attribute [local irreducible] Lf.rg Lf.ro Lf.PWp Lf.SOp Lf.ACall Lf.Scoped Lf.dg
set_option maxRecDepth 20000
set_option maxHeartbeats 4000000
theorem sh_intb {k : Nat} {y : List AV} (h : Sh Try.prog (k + 1) 3 y) : ∃ n : Int, n ≤ 9223372036854775807 ∧ y = intA n := by
  simp only [Sh, Try.underlying3] at h
  obtain ⟨n, hw, hn⟩ := h
  refine ⟨n, ?_, hn⟩
  simp only [Lit.wf, IntKind.min, IntKind.max, IntKind.signed, IntKind.bits, Bool.and_eq_true, decide_eq_true_eq, if_true] at hw
  omega
theorem das_map {α : Type} {g : α → List AV} {p : α → Prop} : ∀ (ys : List (List AV)), (∀ y ∈ ys, ∃ a, p a ∧ y = g a) → ∃ l : List α, (∀ a ∈ l, p a) ∧ ys = l.map g
  | [], _ => ⟨[], by simp, rfl⟩
  | y :: ys, h => by
    obtain ⟨a, ha, rfl⟩ := h y List.mem_cons_self
    obtain ⟨l, hl, rfl⟩ := das_map ys (fun y hy => h y (List.mem_cons_of_mem _ hy))
    exact ⟨a :: l, fun b hb => by rcases List.mem_cons.1 hb with rfl | hb; exact ha; exact hl b hb, rfl⟩
theorem in_intsb {w : World} {a : Option Addr} {l c k : Nat} (h : ∃ xs, Sh Try.prog (k + 2) 70 xs ∧ ((∃ x, xs = [x] ∧ VR [] rz0 w x (.slice a l c)) ∨ VR [] rz0 w (.ag xs) (.slice a l c))) :
    ∃ s : List Int, s.length ≤ 9223372036854775807 ∧ (∀ z ∈ s, z ≤ 9223372036854775807) ∧ VR [] rz0 w (.sl false false (s.map intA)) (.slice a l c) := by
  obtain ⟨ys, h1, h2, h3⟩ := in_sl Try.underlying70 h
  obtain ⟨b, hb, rfl⟩ := das_map (g := intA) ys (fun y hy => sh_intb (h2 y hy))
  exact ⟨b, by simpa [maxLen] using h1, hb, h3⟩
end Go.Proofs.Ytideijigonjohaa
