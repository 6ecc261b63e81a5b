import Derived.Test.YtideijigonjohaaP07
set_option linter.unusedVariables false
set_option linter.unusedSimpArgs false
namespace Go.Proofs.Ytideijigonjohaa
open Go Go.Lf Go.Proofs
attribute [local irreducible] Lf.rg Lf.ro Lf.PWp Lf.SOp Lf.ACall Lf.Scoped Lf.dg
set_option maxRecDepth 20000
set_option maxHeartbeats 4000000

/-- The numbers from c on, so many. -/
def ivl (c n : Nat) : List Int := (List.range n).map fun (j : Nat) => (c : Int) + (j : Int)
theorem ivl_len (c n : Nat) : (ivl c n).length = n := by simp [ivl]
theorem ivl_get (c n j : Nat) (h : j < n) : (ivl c n)[j]? = some ((c : Int) + j) := by
  unfold ivl
  rw [List.getElem?_map, List.getElem?_range h]; rfl
theorem ivl_succ (c n : Nat) : ivl c (n + 1) = ivl c n ++ [(c : Int) + n] := by simp [ivl, List.range_succ]
theorem hasLe_min {N : List Int} {c : Nat} (h1 : (c : Int) ∈ N) (h2 : ∀ x ∈ N, (c : Int) ≤ x) (n : Nat) : hasLe N n = decide (c ≤ n) := by
  unfold hasLe
  rw [Bool.eq_iff_iff, List.any_eq_true, decide_eq_true_eq]
  constructor
  · rintro ⟨x, hx, hn⟩
    have := h2 x hx
    have hn2 : x ≤ (n : Int) := by simpa using hn
    omega
  · intro h
    exact ⟨c, h1, by simpa using h⟩
/-- All numbers from the least on are possible. -/
theorem risU_min {N : List Int} {c : Nat} (h1 : (c : Int) ∈ N) (h2 : ∀ x ∈ N, (c : Int) ≤ x) : ∀ k : Nat, risU N k = ivl c (k - c)
  | 0 => by simp [risU, ivl]
  | k + 1 => by
    rw [risU, risU_min h1 h2 k, hasLe_min h1 h2 k]
    unfold oneIf
    by_cases hc : c ≤ k
    · rw [if_pos (by simpa using hc), show k + 1 - c = (k - c) + 1 from by omega, ivl_succ]
      congr 2; omega
    · rw [if_neg (by simpa using hc), List.append_nil, show k + 1 - c = k - c from by omega]
theorem ivl_mem {c n : Nat} {x : Int} : x ∈ ivl c n ↔ (c : Int) ≤ x ∧ x < c + n := by
  unfold ivl
  rw [List.mem_map]
  constructor
  · rintro ⟨j, hj, rfl⟩
    rw [List.mem_range] at hj
    omega
  · rintro ⟨h1, h2⟩
    exact ⟨(x - c).toNat, by rw [List.mem_range]; omega, by omega⟩
theorem risU_ivl {c n : Nat} (h : 1 ≤ n) (k : Nat) : risU (ivl c n) k = ivl c (k - c) :=
  risU_min (ivl_mem.2 (by omega)) (fun x hx => (ivl_mem.1 hx).1) k
end Go.Proofs.Ytideijigonjohaa
