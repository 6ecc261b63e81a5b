import Derived.Test.YtideijigonjohaaP14
set_option linter.unusedVariables false
set_option linter.unusedSimpArgs false
namespace Go.Proofs.Ytideijigonjohaa
open Go Go.Lf Go.Proofs
attribute [local irreducible] Lf.rg Lf.ro Lf.PWp Lf.SOp Lf.ACall Lf.Scoped Lf.dg
set_option maxRecDepth 20000
set_option maxHeartbeats 4000000

theorem valsAt_app (L : List (List (Int × Int))) (l : List (Int × Int)) (k : Nat) (h : k ≤ L.length) : valsAt (L ++ oneL l) k = valsAt L k := by
  unfold valsAt
  rw [List.take_append_of_le_length h]
theorem valsAt_new (L : List (List (Int × Int))) (l : List (Int × Int)) : valsAt (L ++ oneL l) (L.length + 1) = setApp (valsAt L L.length) l := by
  unfold valsAt oneL
  rw [List.take_of_length_le (by simp), List.take_length, List.foldl_append]; rfl
theorem filtU_eq (p : Int → Bool) (N : List Int) : ∀ k, k ≤ N.length → filtU p N k = (N.take k).filter p
  | 0, _ => by simp [filtU]
  | k + 1, h => by
    obtain ⟨x, hx⟩ := ex_at (l := N) (i := k) (by omega)
    have hg : N.getD k 0 = x := by rw [List.getD_eq_getElem?_getD, hx]; rfl
    rw [filtU, filtU_eq p N k (by omega), hg, take_snoc hx, List.filter_append]
    congr 1
    unfold oneIf
    cases hp : p x <;> simp [hp]
theorem filtU_mem {p : Int → Bool} {N : List Int} {x : Int} : x ∈ filtU p N N.length ↔ x ∈ N ∧ p x = true := by
  rw [filtU_eq p N N.length (Nat.le_refl _), List.take_length, List.mem_filter]
theorem namU_mem {b : Int} {may : List Bool} {x : Int} : ∀ k, k ≤ may.length → (x ∈ namU b may k ↔ ∃ j : Nat, j < k ∧ may[j]? = some true ∧ x = b + j)
  | 0, _ => by simp [namU]
  | k + 1, h => by
    obtain ⟨y, hy⟩ := ex_at (l := may) (i := k) (by omega)
    have hg : may.getD k false = y := by rw [List.getD_eq_getElem?_getD, hy]; rfl
    rw [namU, List.mem_append, namU_mem k (by omega), hg]
    constructor
    · rintro (⟨j, h1, h2, h3⟩ | h1)
      · exact ⟨j, by omega, h2, h3⟩
      · unfold oneIf at h1
        split at h1
        · rename_i hyt
          simp at h1
          exact ⟨k, by omega, by rw [hy, hyt], h1⟩
        · simp at h1
    · rintro ⟨j, h1, h2, h3⟩
      by_cases hjk : j = k
      · subst hjk
        rw [hy] at h2
        simp at h2
        exact .inr (by unfold oneIf; rw [if_pos h2]; simp [h3])
      · exact .inl ⟨j, by omega, h2, h3⟩
theorem idxG_spec : ∀ (l : List Bool) (k : Int), 0 ≤ k → (idxG l k = -1 ∧ ∀ j : Nat, l[j]? ≠ some true) ∨ (∃ j : Nat, idxG l k = k + j ∧ l[j]? = some true ∧ ∀ i : Nat, i < j → l[i]? ≠ some true)
  | [], k, _ => .inl ⟨rfl, by simp⟩
  | x :: l, k, h => by
    unfold idxG
    cases x with
    | true => exact .inr ⟨0, by simp, by simp, by intro i hi; omega⟩
    | false =>
      rw [if_neg (by simp)]
      rcases idxG_spec l (k + 1) (by omega) with ⟨h1, h2⟩ | ⟨j, h1, h2, h3⟩
      · refine .inl ⟨h1, fun j => ?_⟩
        cases j with
        | zero => simp
        | succ j => simpa using h2 j
      · refine .inr ⟨j + 1, by rw [h1]; simp; omega, by simpa using h2, fun i hi => ?_⟩
        cases i with
        | zero => simp
        | succ i => simpa using h3 i (by omega)
theorem idxT_spec (l : List Bool) : (idxT l = -1 ∧ ∀ j : Nat, l[j]? ≠ some true) ∨ (∃ j : Nat, idxT l = j ∧ l[j]? = some true ∧ ∀ i : Nat, i < j → l[i]? ≠ some true) := by
  rcases idxG_spec l 0 (by decide) with h | ⟨j, h1, h2, h3⟩
  · exact .inl h
  · exact .inr ⟨j, by unfold idxT; omega, h2, h3⟩
/-- What is kept: nothing, or all from the least one on. -/
theorem keep_no {c n : Nat} {may : List Bool} (h : idxT may < 0 ∨ (n : Int) ≤ idxT may) : (filtU (fun x => decide (x ∈ namU c may may.length)) (ivl c n) (ivl c n).length).length = 0 := by
  rw [List.length_eq_zero_iff, List.eq_nil_iff_forall_not_mem]
  intro x hx
  rw [filtU_mem] at hx
  obtain ⟨h1, h2⟩ := hx
  rw [decide_eq_true_eq, namU_mem _ (Nat.le_refl _)] at h2
  obtain ⟨j, hj, hjt, rfl⟩ := h2
  have h3 := ivl_mem.1 h1
  rcases idxT_spec may with ⟨e, hn⟩ | ⟨k, e, hk, hmin⟩
  · exact hn j hjt
  · by_cases hjk : j < k
    · exact hmin j hjk hjt
    · omega
theorem keep_yes {c n : Nat} {may : List Bool} {k : Nat} (e : idxT may = k) (hkn : k < n) (m : Nat) : 1 ≤ (filtU (fun x => decide (x ∈ namU c may may.length)) (ivl c n) (ivl c n).length).length ∧ risU (filtU (fun x => decide (x ∈ namU c may may.length)) (ivl c n) (ivl c n).length) m = ivl (c + k) (m - (c + k)) := by
  obtain ⟨hk, hmin⟩ : may[k]? = some true ∧ ∀ i : Nat, i < k → may[i]? ≠ some true := by
    rcases idxT_spec may with ⟨e2, _⟩ | ⟨j, e2, h1, h2⟩
    · omega
    · obtain rfl : j = k := by omega
      exact ⟨h1, h2⟩
  have hmem : ((c + k : Nat) : Int) ∈ filtU (fun x => decide (x ∈ namU c may may.length)) (ivl c n) (ivl c n).length := by
    rw [filtU_mem]
    refine ⟨ivl_mem.2 (by omega), ?_⟩
    rw [decide_eq_true_eq, namU_mem _ (Nat.le_refl _)]
    exact ⟨k, (List.getElem?_eq_some_iff.1 hk).1, hk, by omega⟩
  refine ⟨List.length_pos_of_mem hmem, risU_min hmem (fun x hx => ?_) m⟩
  rw [filtU_mem, decide_eq_true_eq, namU_mem _ (Nat.le_refl _)] at hx
  obtain ⟨_, j, _, hjt, rfl⟩ := hx
  by_cases hjk : j < k
  · exact absurd hjt (hmin j hjk)
  · omega
theorem ack_ris {c n : Nat} {a : Int} (h0 : 0 ≤ a) (hn : 1 ≤ n) (h : a < c ∨ (a = c ∧ 2 ≤ n)) (m : Nat) : risU (filtU (fun x => decide (a + 1 ≤ x)) (ivl c n) (ivl c n).length) m = if a < c then ivl c (m - c) else ivl (c + 1) (m - (c + 1)) := by
  by_cases hac : a < c
  · rw [if_pos hac]
    refine risU_min (filtU_mem.2 ⟨ivl_mem.2 (by omega), by simp; omega⟩) (fun x hx => ?_) m
    exact (ivl_mem.1 (filtU_mem.1 hx).1).1
  · rw [if_neg hac]
    obtain ⟨rfl, h2⟩ := h.resolve_left hac
    refine risU_min (filtU_mem.2 ⟨ivl_mem.2 (by omega), by simp⟩) (fun x hx => ?_) m
    have := (filtU_mem.1 hx).2
    simp at this
    omega
end Go.Proofs.Ytideijigonjohaa
