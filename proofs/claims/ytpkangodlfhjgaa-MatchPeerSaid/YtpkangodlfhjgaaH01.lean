import Derived.Test.YtpkangodlfhjgaaA05
import Derived.Test.YtpkangodlfhjgaaLb
set_option linter.unusedVariables false
set_option linter.unusedSimpArgs false
namespace Go.Proofs.Ytpkangodlfhjgaa
open Go Go.Lf Go.Proofs
attribute [local irreducible] Lf.rg Lf.ro Lf.PWp Lf.SOp Lf.ACall Lf.Scoped Lf.dg
set_option maxRecDepth 20000
set_option maxHeartbeats 4000000
@[go_sem] def setA (s : Int × Int) : List AV := [i64 s.1, i64 s.2]
@[go_sem] theorem purl_setA (l : List (Int × Int)) : purl (l.map setA).flatten = true := purl_map (fun _ => rfl) l
structure Vals where
  (a b c d e f : Int)
deriving DecidableEq
@[go_sem] def valsA (v : Vals) : List AV := [i64 v.a, i64 v.b, i64 v.c, i64 v.d, i64 v.e, i64 v.f]
theorem drop_at {α : Type} {l : List α} {i : Nat} {x : α} (h : l[i]? = some x) : l.drop i = x :: l.drop (i + 1) := by
  obtain ⟨hi, rfl⟩ := List.getElem?_eq_some_iff.1 h
  exact List.drop_eq_getElem_cons hi
end Go.Proofs.Ytpkangodlfhjgaa
