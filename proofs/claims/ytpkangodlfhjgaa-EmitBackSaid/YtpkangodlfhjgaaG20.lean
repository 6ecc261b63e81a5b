import Derived.Test.YtpkangodlfhjgaaF44
import Derived.Test.YtpkangodlfhjgaaLb
set_option linter.unusedVariables false
set_option linter.unusedSimpArgs false
namespace Go.Proofs.Ytpkangodlfhjgaa
open Go Go.Lf Go.Proofs
attribute [local irreducible] Lf.rg Lf.ro Lf.PWp Lf.SOp Lf.ACall Lf.Scoped Lf.dg
set_option maxRecDepth 20000
set_option maxHeartbeats 4000000
theorem sh_raw {k : Nat} {y : List AV} (h : Sh Try.prog (k + 4) 24 y) : ∃ (w t g s : Int) (r : Bool) (b : List UInt8), b.length ≤ 9223372036854775807 ∧ y = [i64 w, i64 t, i64 g, i64 s, bl r, .sl false false (b.map byteA)] := by
  simp only [Sh, Try.underlying24, Try.underlying3, Try.underlying4, Try.underlying22] at h
  obtain ⟨h1, h2⟩ := h
  have a := h2 _ (List.mem_cons_self)
  have b := h2 _ (List.mem_cons_of_mem _ (List.mem_cons_self))
  have c := h2 _ (List.mem_cons_of_mem _ (List.mem_cons_of_mem _ (List.mem_cons_self)))
  have d := h2 _ (List.mem_cons_of_mem _ (List.mem_cons_of_mem _ (List.mem_cons_of_mem _ (List.mem_cons_self))))
  have e := h2 _ (List.mem_cons_of_mem _ (List.mem_cons_of_mem _ (List.mem_cons_of_mem _ (List.mem_cons_of_mem _ (List.mem_cons_self)))))
  have f := h2 _ (List.mem_cons_of_mem _ (List.mem_cons_of_mem _ (List.mem_cons_of_mem _ (List.mem_cons_of_mem _ (List.mem_cons_of_mem _ (List.mem_cons_self))))))
  simp only [ce3, ce4, ce22, Try.underlying3, Try.underlying4, Try.underlying22] at a b c d e f h1
  obtain ⟨n1, _, ha⟩ := a
  obtain ⟨n2, _, hb⟩ := b
  obtain ⟨n3, _, hc⟩ := c
  obtain ⟨n4, _, hd⟩ := d
  obtain ⟨n5, he⟩ := e
  obtain ⟨ys, hl, hy, hf⟩ := f
  obtain ⟨bs, rfl⟩ := as_map (g := byteA) ys (fun y h => sh_byte (k := k + 1) Try.underlying5 (hy y h))
  refine ⟨n1, n2, n3, n4, n5, bs, by simpa [maxLen] using hl, ?_⟩
  rw [ce24] at h1
  match y, h1 with
  | [p1, p2, p3, p4, p5, p6], _ =>
    simp at ha hb hc hd he hf
    simp [ha, hb, hc, hd, he, hf]
theorem in_raw {w : World} {v : Value} {k : Nat} (h : ∃ xs, Sh Try.prog (k + 4) 24 xs ∧ ((∃ x, xs = [x] ∧ VR [] rz0 w x v) ∨ VR [] rz0 w (.ag xs) v)) :
    ∃ (f t g s : Int) (r : Bool) (b : List UInt8), b.length ≤ 9223372036854775807 ∧ VR [] rz0 w (.ag [i64 f, i64 t, i64 g, i64 s, bl r, .sl false false (b.map byteA)]) v := by
  obtain ⟨xs, h1, h2⟩ := h
  obtain ⟨f, t, g, s, r, b, hl, rfl⟩ := sh_raw h1
  rcases h2 with ⟨x, hx, _⟩ | h2
  · simp at hx
  · exact ⟨f, t, g, s, r, b, hl, h2⟩
theorem sh_set {k : Nat} {y : List AV} (h : Sh Try.prog (k + 2) 86 y) : ∃ s : Int × Int, y = setA s := by
  simp only [Sh, Try.underlying86, Try.underlying3] at h
  obtain ⟨h1, h2⟩ := h
  have a := h2 _ (List.mem_cons_self)
  have b := h2 _ (List.mem_cons_of_mem _ (List.mem_cons_self))
  simp only [ce3, Try.underlying3] at a b h1
  obtain ⟨n, _, ha⟩ := a
  obtain ⟨m, _, hb⟩ := b
  refine ⟨(n, m), ?_⟩
  rw [ce86] at h1
  match y, h1 with
  | [p, q], _ =>
    simp at ha hb
    simp [setA, ha, hb]
theorem sh_frame {k : Nat} {y : List AV} (h : Sh Try.prog (k + 5) 28 y) : ∃ (t g s p : Int) (d : List UInt8) (e : List (Int × Int)) (wt pa : Int) (al : Bool) (pr la co sp : Int), d.length ≤ 9223372036854775807 ∧ e.length ≤ 9223372036854775807 ∧ g ≤ 9223372036854775807 ∧ y = [i64 t, i64 g, i64 s, i64 p, .sl false false (d.map byteA), .sl false false (e.map setA), i64 wt, i64 pa, bl al, i64 pr, i64 la, i64 co, i64 sp] := by
  simp only [Sh, Try.underlying28, Try.underlying3, Try.underlying4, Try.underlying22, Try.underlying26] at h
  obtain ⟨h1, h2⟩ := h
  have f_t := h2 _ (List.mem_cons_self)
  have f_g := h2 _ (List.mem_cons_of_mem _ (List.mem_cons_self))
  have f_s := h2 _ (List.mem_cons_of_mem _ (List.mem_cons_of_mem _ (List.mem_cons_self)))
  have f_p := h2 _ (List.mem_cons_of_mem _ (List.mem_cons_of_mem _ (List.mem_cons_of_mem _ (List.mem_cons_self))))
  have f_d := h2 _ (List.mem_cons_of_mem _ (List.mem_cons_of_mem _ (List.mem_cons_of_mem _ (List.mem_cons_of_mem _ (List.mem_cons_self)))))
  have f_e := h2 _ (List.mem_cons_of_mem _ (List.mem_cons_of_mem _ (List.mem_cons_of_mem _ (List.mem_cons_of_mem _ (List.mem_cons_of_mem _ (List.mem_cons_self))))))
  have f_wt := h2 _ (List.mem_cons_of_mem _ (List.mem_cons_of_mem _ (List.mem_cons_of_mem _ (List.mem_cons_of_mem _ (List.mem_cons_of_mem _ (List.mem_cons_of_mem _ (List.mem_cons_self)))))))
  have f_pa := h2 _ (List.mem_cons_of_mem _ (List.mem_cons_of_mem _ (List.mem_cons_of_mem _ (List.mem_cons_of_mem _ (List.mem_cons_of_mem _ (List.mem_cons_of_mem _ (List.mem_cons_of_mem _ (List.mem_cons_self))))))))
  have f_al := h2 _ (List.mem_cons_of_mem _ (List.mem_cons_of_mem _ (List.mem_cons_of_mem _ (List.mem_cons_of_mem _ (List.mem_cons_of_mem _ (List.mem_cons_of_mem _ (List.mem_cons_of_mem _ (List.mem_cons_of_mem _ (List.mem_cons_self)))))))))
  have f_pr := h2 _ (List.mem_cons_of_mem _ (List.mem_cons_of_mem _ (List.mem_cons_of_mem _ (List.mem_cons_of_mem _ (List.mem_cons_of_mem _ (List.mem_cons_of_mem _ (List.mem_cons_of_mem _ (List.mem_cons_of_mem _ (List.mem_cons_of_mem _ (List.mem_cons_self))))))))))
  have f_la := h2 _ (List.mem_cons_of_mem _ (List.mem_cons_of_mem _ (List.mem_cons_of_mem _ (List.mem_cons_of_mem _ (List.mem_cons_of_mem _ (List.mem_cons_of_mem _ (List.mem_cons_of_mem _ (List.mem_cons_of_mem _ (List.mem_cons_of_mem _ (List.mem_cons_of_mem _ (List.mem_cons_self)))))))))))
  have f_co := h2 _ (List.mem_cons_of_mem _ (List.mem_cons_of_mem _ (List.mem_cons_of_mem _ (List.mem_cons_of_mem _ (List.mem_cons_of_mem _ (List.mem_cons_of_mem _ (List.mem_cons_of_mem _ (List.mem_cons_of_mem _ (List.mem_cons_of_mem _ (List.mem_cons_of_mem _ (List.mem_cons_of_mem _ (List.mem_cons_self))))))))))))
  have f_sp := h2 _ (List.mem_cons_of_mem _ (List.mem_cons_of_mem _ (List.mem_cons_of_mem _ (List.mem_cons_of_mem _ (List.mem_cons_of_mem _ (List.mem_cons_of_mem _ (List.mem_cons_of_mem _ (List.mem_cons_of_mem _ (List.mem_cons_of_mem _ (List.mem_cons_of_mem _ (List.mem_cons_of_mem _ (List.mem_cons_of_mem _ (List.mem_cons_self)))))))))))))
  simp only [ce3, ce4, ce22, ce26, Try.underlying3, Try.underlying4, Try.underlying22, Try.underlying26] at f_t f_g f_s f_p f_d f_e f_wt f_pa f_al f_pr f_la f_co f_sp h1
  obtain ⟨v_t, _, f_t⟩ := f_t
  obtain ⟨v_g, hwg, f_g⟩ := f_g
  have hwg2 : v_g ≤ 9223372036854775807 := by
    simp only [Lit.wf, IntKind.min, IntKind.max, IntKind.signed, IntKind.bits, Bool.and_eq_true, decide_eq_true_eq, if_true] at hwg
    omega
  obtain ⟨v_s, _, f_s⟩ := f_s
  obtain ⟨v_p, _, f_p⟩ := f_p
  obtain ⟨yd, hld, hyd, f_d⟩ := f_d
  obtain ⟨vd, rfl⟩ := as_map (g := byteA) yd (fun y h => sh_byte (k := k + 2) Try.underlying5 (hyd y h))
  obtain ⟨ye, hle, hye, f_e⟩ := f_e
  obtain ⟨ve, rfl⟩ := as_map (g := setA) ye (fun y h => sh_set (k := k + 1) (hye y h))
  obtain ⟨v_wt, _, f_wt⟩ := f_wt
  obtain ⟨v_pa, _, f_pa⟩ := f_pa
  obtain ⟨v_al, f_al⟩ := f_al
  obtain ⟨v_pr, _, f_pr⟩ := f_pr
  obtain ⟨v_la, _, f_la⟩ := f_la
  obtain ⟨v_co, _, f_co⟩ := f_co
  obtain ⟨v_sp, _, f_sp⟩ := f_sp
  refine ⟨v_t, v_g, v_s, v_p, vd, ve, v_wt, v_pa, v_al, v_pr, v_la, v_co, v_sp, by simpa [maxLen] using hld, by simpa [maxLen] using hle, hwg2, ?_⟩
  rw [ce28] at h1
  match y, h1 with
  | [q0, q1, q2, q3, q4, q5, q6, q7, q8, q9, q10, q11, q12], _ =>
    simp at f_t f_g f_s f_p f_d f_e f_wt f_pa f_al f_pr f_la f_co f_sp
    simp [f_t, f_g, f_s, f_p, f_d, f_e, f_wt, f_pa, f_al, f_pr, f_la, f_co, f_sp]
theorem in_frame {w : World} {v : Value} {k : Nat} (h : ∃ xs, Sh Try.prog (k + 5) 28 xs ∧ ((∃ x, xs = [x] ∧ VR [] rz0 w x v) ∨ VR [] rz0 w (.ag xs) v)) :
    ∃ (t g s p : Int) (d : List UInt8) (e : List (Int × Int)) (wt pa : Int) (al : Bool) (pr la co sp : Int), d.length ≤ 9223372036854775807 ∧ e.length ≤ 9223372036854775807 ∧ g ≤ 9223372036854775807 ∧ VR [] rz0 w (.ag [i64 t, i64 g, i64 s, i64 p, .sl false false (d.map byteA), .sl false false (e.map setA), i64 wt, i64 pa, bl al, i64 pr, i64 la, i64 co, i64 sp]) v := by
  obtain ⟨xs, h1, h2⟩ := h
  obtain ⟨t, g, s, p, d, e, wt, pa, al, pr, la, co, sp, hl, hm, hg, rfl⟩ := sh_frame h1
  rcases h2 with ⟨x, hx, _⟩ | h2
  · simp at hx
  · exact ⟨t, g, s, p, d, e, wt, pa, al, pr, la, co, sp, hl, hm, hg, h2⟩
theorem das_map {α : Type} {g : α → List AV} {p : α → Prop} : ∀ (ys : List (List AV)), (∀ y ∈ ys, ∃ a, p a ∧ y = g a) → ∃ l : List α, (∀ a ∈ l, p a) ∧ ys = l.map g
  | [], _ => ⟨[], by simp, rfl⟩
  | y :: ys, h => by
    obtain ⟨a, ha, rfl⟩ := h y List.mem_cons_self
    obtain ⟨l, hl, rfl⟩ := das_map ys (fun y hy => h y (List.mem_cons_of_mem _ hy))
    exact ⟨a :: l, fun b hb => by rcases List.mem_cons.1 hb with rfl | hb; exact ha; exact hl b hb, rfl⟩
theorem in_frames {w : World} {a : Option Addr} {l c k : Nat} (h : ∃ xs, Sh Try.prog (k + 6) 62 xs ∧ ((∃ x, xs = [x] ∧ VR [] rz0 w x (.slice a l c)) ∨ VR [] rz0 w (.ag xs) (.slice a l c))) :
    ∃ s : List Fm, s.length ≤ 9223372036854775807 ∧ (∀ x ∈ s, x.d.length ≤ 9223372036854775807 ∧ x.st.length ≤ 9223372036854775807 ∧ x.g ≤ 9223372036854775807) ∧ VR [] rz0 w (.sl false false (s.map fmA)) (.slice a l c) := by
  obtain ⟨ys, h1, h2, h3⟩ := in_sl Try.underlying62 h
  obtain ⟨b, hb, rfl⟩ := das_map (g := fmA) (p := fun x => x.d.length ≤ 9223372036854775807 ∧ x.st.length ≤ 9223372036854775807 ∧ x.g ≤ 9223372036854775807) ys (fun y hy => by
    obtain ⟨t, g, s, p, d, e, wt, pa, al, pr, la, co, sp, hl, hm, hg, he⟩ := sh_frame (k := k) (h2 y hy)
    exact ⟨⟨t, g, s, p, false, d, false, e, wt, pa, al, pr, la, co, sp⟩, ⟨hl, hm, hg⟩, he⟩)
  exact ⟨b, by simpa [maxLen] using h1, hb, h3⟩
end Go.Proofs.Ytpkangodlfhjgaa
