import Derived.Test.YtpkangodlfhjgaaF44
import Derived.Test.YtpkangodlfhjgaaLc
set_option linter.unusedVariables false
set_option linter.unusedSimpArgs false
namespace Go.Proofs.Ytpkangodlfhjgaa
open Go Go.Lf Go.Proofs
attribute [local irreducible] Lf.rg Lf.ro Lf.PWp Lf.SOp Lf.ACall Lf.Scoped Lf.dg Lf.dw
set_option maxRecDepth 20000
set_option maxHeartbeats 4000000
structure Fr where
  (f : Bool) (w t g s : Int) (r : Bool) (b : List UInt8)
@[go_sem] def frA (f : Fr) : List AV := [i64 f.w, i64 f.t, i64 f.g, i64 f.s, bl f.r, .sl f.f false (f.b.map byteA)]
@[go_sem] theorem purl_frA (l : List Fr) : purl (l.map frA).flatten = true := purl_map (fun a => by simp [frA, purl, pur]) l
@[go_sem] theorem fz_mapfr {κ : List Nat} {σ : Sto} (l : List Fr) : List.map (fzl κ σ) (l.map frA) = l.map frA := fz_mapg (fun _ => rfl) l
theorem cex_at {α : Type} {l : List α} {i : Nat} (h : i < l.length) : ∃ x, l[i]? = some x := ⟨l[i], List.getElem?_eq_getElem h⟩
theorem cdrop_at {α : Type} {l : List α} {i : Nat} {x : α} (h : l[i]? = some x) : l.drop i = x :: l.drop (i + 1) := by
  obtain ⟨h1, h2⟩ := List.getElem?_eq_some_iff.1 h
  rw [List.drop_eq_getElem_cons h1, h2]
end Go.Proofs.Ytpkangodlfhjgaa
