import Derived.Test.YtpkangodlfhjgaaA05
import Derived.Test.YtpkangodlfhjgaaLb
set_option linter.unusedVariables false
set_option linter.unusedSimpArgs false
namespace Go.Proofs.Ytpkangodlfhjgaa
open Go Go.Lf Go.Proofs
attribute [local irreducible] Lf.rg Lf.ro Lf.PWp Lf.SOp Lf.ACall Lf.Scoped Lf.dg
set_option maxRecDepth 20000
set_option maxHeartbeats 4000000
@[go_sem] def setA (s : Int × Int) : List AV := [i64 s.1, i64 s.2]
@[go_sem] theorem purl_setA (l : List (Int × Int)) : purl (l.map setA).flatten = true := purl_map (fun _ => rfl) l
structure Vals where
  (a b c d e f : Int)
deriving DecidableEq
@[go_sem] def valsA (v : Vals) : List AV := [i64 v.a, i64 v.b, i64 v.c, i64 v.d, i64 v.e, i64 v.f]
def val0 : Vals := ⟨4096, 1, 4294967296, 65535, 16384, 4294967296⟩
theorem drop_at {α : Type} {l : List α} {i : Nat} {x : α} (h : l[i]? = some x) : l.drop i = x :: l.drop (i + 1) := by
  obtain ⟨hi, rfl⟩ := List.getElem?_eq_some_iff.1 h
  exact List.drop_eq_getElem_cons hi
def scode (a v fr : Int) : Int := if a = 2 ∧ (1 < v ∨ (v = 1 ∧ fr = 1)) then 1 else if a = 4 ∧ 2147483647 < v then 3 else if a = 5 ∧ (v < 16384 ∨ 16777215 < v) then 1 else 0
theorem scode_cases (a v fr : Int) : (a = 2 ∧ (1 < v ∨ (v = 1 ∧ fr = 1)) ∧ scode a v fr = 1) ∨ (a = 4 ∧ 2147483647 < v ∧ scode a v fr = 3) ∨ (a = 5 ∧ (v < 16384 ∨ 16777215 < v) ∧ scode a v fr = 1) ∨
    ((a = 2 → ¬ (1 < v ∨ (v = 1 ∧ fr = 1))) ∧ (a = 4 → ¬ 2147483647 < v) ∧ (a = 5 → ¬ (v < 16384 ∨ 16777215 < v)) ∧ scode a v fr = 0) := by
  unfold scode
  split
  · rename_i h; exact .inl ⟨h.1, h.2, rfl⟩
  split
  · rename_i h; exact .inr (.inl ⟨h.1, h.2, rfl⟩)
  split
  · rename_i h; exact .inr (.inr (.inl ⟨h.1, h.2, rfl⟩))
  · refine .inr (.inr (.inr ⟨?_, ?_, ?_, rfl⟩)) <;> omega
def scope0 (c : Int) : Int := if c = 0 then 0 else 2
theorem scope0_z : scope0 0 = 0 := rfl
theorem scope0_iff {c : Int} : scope0 c = 0 ↔ c = 0 := by unfold scope0; split <;> simp_all
theorem scope0_n {c : Int} (h : ¬ c = 0) : scope0 c = 2 := if_neg h
def setChk (fr : Int) : List (Int × Int) → Int
  | [] => 0
  | s :: l => if scode s.1 s.2 fr ≠ 0 then scode s.1 s.2 fr else setChk fr l
theorem chk_hit {fr : Int} {l : List (Int × Int)} {i : Nat} {s : Int × Int} (h : setChk fr l = setChk fr (l.drop i)) (hs : l[i]? = some s) (hc : ¬ scode s.1 s.2 fr = 0) : setChk fr l = scode s.1 s.2 fr := by
  rw [h, drop_at hs, setChk, if_pos hc]
theorem chk_go {fr : Int} {l : List (Int × Int)} {i : Nat} {s : Int × Int} (h : setChk fr l = setChk fr (l.drop i)) (hs : l[i]? = some s) (hc : scode s.1 s.2 fr = 0) : setChk fr l = setChk fr (l.drop (i + 1)) := by
  rw [h, drop_at hs, setChk, if_neg (by simp [hc])]
theorem chk_end {fr : Int} {l : List (Int × Int)} {i : Nat} (h : setChk fr l = setChk fr (l.drop i)) (hi : l.length ≤ i) : setChk fr l = 0 := by
  rw [h, List.drop_eq_nil_of_le hi]; rfl
end Go.Proofs.Ytpkangodlfhjgaa
