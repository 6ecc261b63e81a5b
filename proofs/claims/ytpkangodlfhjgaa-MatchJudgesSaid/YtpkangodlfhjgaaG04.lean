import Derived.Test.YtpkangodlfhjgaaG03
import Derived.Test.YtpkangodlfhjgaaLb
set_option linter.unusedVariables false
set_option linter.unusedSimpArgs false
namespace Go.Proofs.Ytpkangodlfhjgaa
open Go Go.Lf Go.Proofs
attribute [local irreducible] Lf.rg Lf.ro Lf.PWp Lf.SOp Lf.ACall Lf.Scoped Lf.dg
set_option maxRecDepth 20000
set_option maxHeartbeats 4000000
theorem das_map {α : Type} {g : α → List AV} {p : α → Prop} : ∀ (ys : List (List AV)), (∀ y ∈ ys, ∃ a, p a ∧ y = g a) → ∃ l : List α, (∀ a ∈ l, p a) ∧ ys = l.map g
  | [], _ => ⟨[], by simp, rfl⟩
  | y :: ys, h => by
    obtain ⟨a, ha, rfl⟩ := h y List.mem_cons_self
    obtain ⟨l, hl, rfl⟩ := das_map ys (fun y hy => h y (List.mem_cons_of_mem _ hy))
    exact ⟨a :: l, fun b hb => by rcases List.mem_cons.1 hb with rfl | hb; exact ha; exact hl b hb, rfl⟩
theorem sh_raw {k : Nat} {y : List AV} (h : Sh Try.prog (k + 4) 24 y) : ∃ c : Fr, c.b.length ≤ 9223372036854775807 ∧ y = frA c := by
  simp only [Sh, Try.underlying24, Try.underlying3, Try.underlying4, Try.underlying22] at h
  obtain ⟨h1, h2⟩ := h
  have a := h2 _ (List.mem_cons_self)
  have b := h2 _ (List.mem_cons_of_mem _ (List.mem_cons_self))
  have c := h2 _ (List.mem_cons_of_mem _ (List.mem_cons_of_mem _ (List.mem_cons_self)))
  have d := h2 _ (List.mem_cons_of_mem _ (List.mem_cons_of_mem _ (List.mem_cons_of_mem _ (List.mem_cons_self))))
  have e := h2 _ (List.mem_cons_of_mem _ (List.mem_cons_of_mem _ (List.mem_cons_of_mem _ (List.mem_cons_of_mem _ (List.mem_cons_self)))))
  have f := h2 _ (List.mem_cons_of_mem _ (List.mem_cons_of_mem _ (List.mem_cons_of_mem _ (List.mem_cons_of_mem _ (List.mem_cons_of_mem _ (List.mem_cons_self))))))
  simp only [ce3, ce4, ce22, Try.underlying3, Try.underlying4, Try.underlying22] at a b c d e f h1
  obtain ⟨n1, _, ha⟩ := a
  obtain ⟨n2, _, hb⟩ := b
  obtain ⟨n3, _, hc⟩ := c
  obtain ⟨n4, _, hd⟩ := d
  obtain ⟨n5, he⟩ := e
  obtain ⟨ys, hl, hy, hf⟩ := f
  obtain ⟨bs, rfl⟩ := as_map (g := byteA) ys (fun y h => sh_byte (k := k + 1) Try.underlying5 (hy y h))
  refine ⟨⟨false, n1, n2, n3, n4, n5, bs⟩, by simpa [maxLen] using hl, ?_⟩
  rw [ce24] at h1
  match y, h1 with
  | [p1, p2, p3, p4, p5, p6], _ =>
    simp at ha hb hc hd he hf
    simp [frA, ha, hb, hc, hd, he, hf]
theorem in_raws {w : World} {a : Option Addr} {l c k : Nat} (h : ∃ xs, Sh Try.prog (k + 5) 40 xs ∧ ((∃ x, xs = [x] ∧ VR [] rz0 w x (.slice a l c)) ∨ VR [] rz0 w (.ag xs) (.slice a l c))) :
    ∃ s : List Fr, s.length ≤ 9223372036854775807 ∧ (∀ r ∈ s, r.b.length ≤ 9223372036854775807) ∧ VR [] rz0 w (.sl false false (s.map frA)) (.slice a l c) := by
  obtain ⟨ys, h1, h2, h3⟩ := in_sl Try.underlying40 h
  obtain ⟨b, hb, rfl⟩ := das_map (g := frA) (p := fun r => r.b.length ≤ 9223372036854775807) ys (fun y hy => sh_raw (k := k) (h2 y hy))
  exact ⟨b, by simpa [maxLen] using h1, hb, h3⟩
theorem sh_fault {k : Nat} {y : List AV} (h : Sh Try.prog (k + 2) 30 y) : ∃ s : Int × Int, y = setA s := by
  simp only [Sh, Try.underlying30, Try.underlying3] at h
  obtain ⟨h1, h2⟩ := h
  have a := h2 _ (List.mem_cons_self)
  have b := h2 _ (List.mem_cons_of_mem _ (List.mem_cons_self))
  simp only [ce3, Try.underlying3] at a b h1
  obtain ⟨n, _, ha⟩ := a
  obtain ⟨m, _, hb⟩ := b
  refine ⟨(n, m), ?_⟩
  rw [ce30] at h1
  match y, h1 with
  | [p, q], _ =>
    simp at ha hb
    simp [setA, ha, hb]
theorem in_faults {w : World} {a : Option Addr} {l c k : Nat} (h : ∃ xs, Sh Try.prog (k + 3) 44 xs ∧ ((∃ x, xs = [x] ∧ VR [] rz0 w x (.slice a l c)) ∨ VR [] rz0 w (.ag xs) (.slice a l c))) :
    ∃ s : List (Int × Int), s.length ≤ 9223372036854775807 ∧ VR [] rz0 w (.sl false false (s.map setA)) (.slice a l c) := by
  obtain ⟨ys, h1, h2, h3⟩ := in_sl Try.underlying44 h
  obtain ⟨b, hb, rfl⟩ := das_map (g := setA) (p := fun _ => True) ys (fun y hy => by obtain ⟨s, e⟩ := sh_fault (k := k) (h2 y hy); exact ⟨s, trivial, e⟩)
  exact ⟨b, by simpa [maxLen] using h1, h3⟩
theorem in_told {w : World} {v : Value} {k : Nat} (h : ∃ xs, Sh Try.prog (k + 4) 46 xs ∧ ((∃ x, xs = [x] ∧ VR [] rz0 w x v) ∨ VR [] rz0 w (.ag xs) v)) :
    ∃ (a c : Int) (b : Bool), VR [] rz0 w (.ag [i64 a, i64 c, bl b]) v := by
  obtain ⟨xs, h1, h2⟩ := h
  rw [Sh, Try.underlying46] at h1
  obtain ⟨h3, h4⟩ := h1
  obtain ⟨⟨a, c⟩, ha⟩ := sh_fault (k := k + 1) (h4 _ (List.mem_cons_self))
  have hb := h4 _ (List.mem_cons_of_mem _ (List.mem_cons_self))
  simp only [Sh, Try.underlying4] at hb
  obtain ⟨b, hb⟩ := hb
  simp only [ce4, ce30] at ha hb
  rw [ce46] at h3
  match xs, h3 with
  | [p1, p2, p3], _ =>
    simp [setA] at ha hb
    obtain ⟨rfl, rfl⟩ := ha
    subst hb
    rcases h2 with ⟨x, hx, _⟩ | h2
    · simp at hx
    · exact ⟨a, c, b, h2⟩
end Go.Proofs.Ytpkangodlfhjgaa
