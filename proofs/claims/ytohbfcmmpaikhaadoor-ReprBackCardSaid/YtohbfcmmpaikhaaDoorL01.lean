import Derived.Test.YtohbfcmmpaikhaaDoorLb
import Derived.Test.YtohbfcmmpaikhaaDoorTy
import Derived.Test.YtohbfcmmpaikhaaDoorRows
import Derived.ProofKit
import Derived.LaidMore
import Derived.OpenShut
import Derived.Stop.Joined
set_option linter.unusedVariables false
set_option linter.unusedSimpArgs false
namespace Go.Proofs.YtohbfcmmpaikhaaDoor
open Go Go.Lf Go.Proofs Go.ChangeShapes Go.WideShapes Go.ChangeAt Go.RowKit
attribute [local irreducible] Lf.rg Lf.ro Lf.PWp Lf.SOp Lf.ACall Lf.Scoped Lf.dg
set_option maxRecDepth 20000
set_option maxHeartbeats 4000000
abbrev laidD : List (String × DataW Unit) := [("stickler/repr.forms", Rows.laid_stickler_repr_forms)]
theorem gForms : Tryd.prog.globalNamed "stickler/repr.forms" = some 0 := by kernel_rfl
theorem tForms : (Tryd.prog.globals[0]?).map (·.type) = some 94 := by kernel_rfl
theorem laid_pair {W : World} {base : Nat} {spare : Nat → Bool} {held : Bool} {n : Nat} {cs : List Value} {a b : Int} {x : DataW Unit × List MemPlace} {enc : TypeId × Value → Unit}
    (h : DataW.trod enc Tryd.prog W base spare held n 93 cs = some x) (hx : x.1 = .agg [.lit (.int .i64 a), .lit (.int .i64 b)]) : cs = [.int .i64 a, .int .i64 b] := by
  obtain ⟨y0, y1, m, rfl, hl, h0, h1⟩ := trod_struct2 Tryd.underlying93 h
  obtain ⟨k0, e0, f0, _⟩ := DataW.trod_int Tryd.underlying3 h0
  obtain ⟨k1, e1, f1, _⟩ := DataW.trod_int Tryd.underlying3 h1
  simp only [DataW.agg.injEq, List.cons.injEq] at hx
  have c3 : Tryd.prog.cellsOf 3 = 1 := ce3
  have c93 : Tryd.prog.cellsOf 93 = 2 := ce93
  rw [c93] at hl
  match cs, hl with
  | [c0, c1], _ =>
    simp [c3] at e0 e1
    rw [f0, f1] at hx
    simp at hx
    obtain ⟨rfl, rfl⟩ := hx
    rw [e0, e1]
theorem take12 {α : Type} (cs : List α) (h : cs.length = 12) : cs = (cs.drop 0).take 2 ++ ((cs.drop 2).take 2 ++ ((cs.drop 4).take 2 ++ ((cs.drop 6).take 2 ++ ((cs.drop 8).take 2 ++ (cs.drop 10).take 2)))) := by
  match cs, h with
  | [a, b, c, d, e, f, g, h, i, j, k, l], _ => rfl
theorem gv_of_laid {W : World} (h : laidMetH Tryd.prog laidD W) : GV [] rz0 W := by
  rw [MakeChecks.laidMetH_plain _ _ _ (by kernel_rfl)] at h
  obtain ⟨ps, ⟨g0, t0, cs0, f0, p0, q0, hg0, ht0, hv0, hd0, _, _⟩, _, _⟩ := h
  obtain rfl := Option.some.inj (gForms.symm.trans hg0)
  obtain rfl := Option.some.inj (tForms.symm.trans ht0)
  obtain ⟨xs, m1, rfl, hx1, hlen, hn6, hel⟩ := DataW.trod_array Tryd.underlying94 hd0
  have c93 : Tryd.prog.cellsOf 93 = 2 := ce93
  have c94 : Tryd.prog.cellsOf 94 = 12 := ce94
  rw [c94] at hlen
  simp only [c93] at hel
  have hcs : cs0.toList = [.int .i64 0, .int .i64 0, .int .i64 128, .int .i64 7, .int .i64 64, .int .i64 6, .int .i64 0, .int .i64 4, .int .i64 16, .int .i64 4, .int .i64 32, .int .i64 5] := by
    match xs, hn6 with
    | [x0, x1, x2, x3, x4, x5], _ =>
      simp only [Prod.mk.injEq, Rows.laid_stickler_repr_forms, List.map_cons, List.map_nil, DataW.agg.injEq, List.cons.injEq, and_true] at hx1
      obtain ⟨⟨y0, y1, y2, y3, y4, y5⟩, _⟩ := hx1
      have e0 := laid_pair (hel 0 (by decide)) y0.symm
      have e1 := laid_pair (hel 1 (by decide)) y1.symm
      have e2 := laid_pair (hel 2 (by decide)) y2.symm
      have e3 := laid_pair (hel 3 (by decide)) y3.symm
      have e4 := laid_pair (hel 4 (by decide)) y4.symm
      have e5 := laid_pair (hel 5 (by decide)) y5.symm
      rw [take12 cs0.toList hlen]
      simp only [Nat.reduceMul] at e0 e1 e2 e3 e4 e5
      rw [e0, e1, e2, e3, e4, e5]
      rfl
  have hc : ∀ i v, cs0.toList[i]? = some v → W.cell? ⟨0, i, none⟩ = some v := by
    intro i v hv
    have := World.var?_cell hg0 hv0 i
    rw [this, ← Array.getElem?_toList]
    exact hv
  intro g
  cases g with
  | succ g => exact trivial
  | zero =>
    show VR [] rz0 W (.ip false _) _
    simp only [VR]
    have h0 := hc 0 (.int .i64 0) (by rw [hcs]; rfl)
    refine ⟨0, 0, rfl, ?_, ?_, ?_⟩
    · have h1 := h0
      unfold World.cell? at h1
      cases hh : W.heap[0]? with
      | none => simp [hh] at h1
      | some o => exact (Array.getElem?_eq_some_iff.1 hh).1
    · intro h
      rcases (Bset.mset h) with ⟨o, ob, q, _⟩ | h
      · simp at q
      · exact h
    · simp only [List.map_cons, List.map_nil, PVs, PV]
      repeat' (first | exact trivial | refine ⟨⟨_, hc _ _ (by rw [hcs]; rfl), rfl, rfl⟩, ?_⟩)
end Go.Proofs.YtohbfcmmpaikhaaDoor
