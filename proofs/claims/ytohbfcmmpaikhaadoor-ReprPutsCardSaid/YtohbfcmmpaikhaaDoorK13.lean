import Derived.Test.YtohbfcmmpaikhaaDoorK12
set_option linter.unusedVariables false
set_option linter.unusedSimpArgs false
namespace Go.Proofs.YtohbfcmmpaikhaaDoor
open Go Go.Lf Go.Proofs
attribute [local irreducible] Lf.rg Lf.ro Lf.PWp Lf.SOp Lf.ACall Lf.Scoped Lf.dg
set_option maxRecDepth 20000
set_option maxHeartbeats 4000000
def fstT : List Int := [0, 0, 0, 0, 0, 0, 20, 92, 248, 508, 1016, 2042, 4090, 8184, 16380, 32764, 65534, 131068, 262136, 524272, 1048550, 2097116, 4194258, 8388568, 16777194, 33554412, 67108832, 134217694, 268435426, 536870910, 1073741820]
def cntT : List Int := [0, 0, 0, 0, 0, 10, 26, 32, 6, 0, 5, 3, 2, 6, 2, 3, 0, 0, 0, 3, 8, 13, 26, 29, 12, 4, 15, 19, 29, 0, 4]
def bseT : List Int := [0, 0, 0, 0, 0, 0, 10, 36, 68, 74, 74, 79, 82, 84, 90, 92, 95, 95, 95, 95, 98, 106, 119, 145, 174, 186, 190, 205, 224, 253, 253]
theorem tab_is : ∀ n : Fin 31, fstI n.val = fstT.getD n.val 0 ∧ cntN 257 n.val = cntT.getD n.val 0 ∧ bseI n.val = bseT.getD n.val 0 := by decide +kernel
theorem codeN_31 : codeN 31 = 1073741824 := by decide +kernel
theorem tab_i : ∀ i : Fin 257, 1 ≤ lenO.getD i.val 0 ∧ lenO.getD i.val 0 ≤ 30 ∧ codO.getD i.val 0 = fstT.getD (lenO.getD i.val 0) 0 + ((i.val : Nat) : Int) - bseT.getD (lenO.getD i.val 0) 0 ∧ bseT.getD (lenO.getD i.val 0) 0 ≤ ((i.val : Nat) : Int) ∧ ((i.val : Nat) : Int) < bseT.getD (lenO.getD i.val 0) 0 + cntT.getD (lenO.getD i.val 0) 0 := by decide +kernel
theorem tab_n : ∀ n : Fin 31, ∀ i : Fin 257, bseT.getD n.val 0 ≤ ((i.val : Nat) : Int) → ((i.val : Nat) : Int) < bseT.getD n.val 0 + cntT.getD n.val 0 → lenO.getD i.val 0 = n.val := by decide +kernel
theorem tab_b : ∀ n : Fin 31, 0 ≤ bseT.getD n.val 0 ∧ 0 ≤ cntT.getD n.val 0 ∧ bseT.getD n.val 0 + cntT.getD n.val 0 ≤ 257 := by decide +kernel
theorem sym_idx : ∀ s : Fin 257, symT.idxOf s.val < 257 ∧ symT.getD (symT.idxOf s.val) 0 = s.val := by decide +kernel
theorem sym_cs {i : Nat} (h : i < 257) : csI (symT.getD i 0) = codO.getD i 0 := by
  obtain ⟨s, hs, _, hs2, _⟩ := sym_at h
  have h1 : (symT.map csI)[i]? = codO[i]? := by rw [codO_is]
  rw [List.getElem?_map, hs, Option.map_some] at h1
  rw [hs2, List.getD_eq_getElem?_getD, ← h1]; rfl
theorem of_find {c n : Int} (h : findY c n = true) : ∃ s : Nat, s < 257 ∧ findS c n = s ∧ csI s = c ∧ szI (s : Int) = n ∧ 1 ≤ n ∧ n ≤ 30 := by
  have h := of_decide_eq_true h
  obtain ⟨h1, h2, h3, h4⟩ := h
  obtain ⟨m, rfl⟩ : ∃ m : Nat, n = m := ⟨n.toNat, by omega⟩
  rw [Int.toNat_natCast] at h3 h4
  obtain ⟨t1, t2, t3⟩ := tab_is ⟨m, by omega⟩
  obtain ⟨b1, b2, b3⟩ := tab_b ⟨m, by omega⟩
  dsimp only at t1 t2 t3 b1 b2 b3
  rw [← t2, ← t3] at b3
  rw [← t3] at b1
  obtain ⟨i, hi⟩ : ∃ i : Nat, bseI m + (c - fstI m) = i := ⟨(bseI m + (c - fstI m)).toNat, by omega⟩
  have hi2 : i < 257 := by omega
  have hn := tab_n ⟨m, by omega⟩ ⟨i, hi2⟩ (by dsimp only; rw [← t3]; omega) (by dsimp only; rw [← t3, ← t2]; omega)
  dsimp only at hn
  obtain ⟨s, e1, e2, e3, e4⟩ := sym_at hi2
  obtain ⟨_, _, e5, _, _⟩ := tab_i ⟨i, hi2⟩
  dsimp only at e5
  rw [hn, ← t1, ← t3] at e5
  refine ⟨s, e2, ?_, ?_, ?_, h1, h2⟩
  · unfold findS ordB
    rw [Int.toNat_natCast, hi, Int.toNat_natCast, symT_is, e3]
  · rw [← e3, sym_cs hi2, e5]; omega
  · rw [e4, hn]
theorem find_of {s : Nat} (h : s < 257) : findY (csI s) (szI (s : Int)) = true ∧ findS (csI s) (szI (s : Int)) = s := by
  obtain ⟨h1, h2⟩ := sym_idx ⟨s, h⟩
  dsimp only at h1 h2
  generalize symT.idxOf s = i at h1 h2
  obtain ⟨s2, e1, e2, e3, e4⟩ := sym_at h1
  rw [h2] at e3
  subst e3
  obtain ⟨t1, t2, t3, t4, t5⟩ := tab_i ⟨i, h1⟩
  dsimp only at t1 t2 t3 t4 t5
  have hc := sym_cs h1
  rw [h2] at hc
  obtain ⟨u1, u2, u3⟩ := tab_is ⟨lenO.getD i 0, by omega⟩
  dsimp only at u1 u2 u3
  rw [← u1, ← u3, ← hc] at t3
  rw [← u3] at t4 t5
  rw [← u2] at t5
  rw [e4]
  refine ⟨decide_eq_true ?_, ?_⟩
  · rw [Int.toNat_natCast]; omega
  · unfold findS ordB
    rw [Int.toNat_natCast, symT_is, show bseI (lenO.getD i 0) + (csI s - fstI (lenO.getD i 0)) = (i : Int) from by omega, Int.toNat_natCast, h2]
structure Way (c : Int) (n : Nat) : Prop where
  l : codeN (n + 1) ≤ c
  u : c < 2 ^ n
  n : n ≤ 29
  z : 0 ≤ c
theorem way_0 : Way 0 0 := ⟨by decide +kernel, by decide, by decide, by decide⟩
theorem way_s {c x : Int} {n : Nat} (h : Way c n) (hx : x = 0 ∨ x = 1) (hf : ¬ findY (2 * c + x) ((n : Int) + 1) = true) : Way (2 * c + x) (n + 1) := by
  obtain ⟨h1, h2, h3, h4⟩ := h
  have hf := of_decide_eq_false (show findY (2 * c + x) ((n : Int) + 1) = false by revert hf; cases findY (2 * c + x) ((n : Int) + 1) <;> simp)
  rw [show ((n : Int) + 1).toNat = n + 1 from by omega] at hf
  have e1 : fstI (n + 1) = codeN (n + 1) * 2 := rfl
  have e2 : codeN (n + 1 + 1) = codeN (n + 1) * 2 + cntN 257 (n + 1) := rfl
  have hl : codeN (n + 1 + 1) ≤ 2 * c + x := by omega
  have hu : 2 * c + x < 2 ^ (n + 1) := by rw [Int.pow_succ]; omega
  refine ⟨hl, hu, ?_, by omega⟩
  by_cases h9 : n = 29
  · exfalso
    subst h9
    have e3 : codeN (29 + 1 + 1) = 1073741824 := codeN_31
    have e4 : (2 : Int) ^ (29 + 1) = 1073741824 := by decide
    omega
  · omega
def huM : List Int → Int → Nat → List UInt8 → List UInt8 × Int
  | [], c, n, o => if 7 < n ∨ c ≠ 2 ^ n - 1 then ([], 10) else (o, 0)
  | x :: l, c, n, o => if findY (2 * c + x) ((n : Int) + 1) = true then (if findS (2 * c + x) ((n : Int) + 1) = 256 then ([], 11) else huM l 0 0 (o ++ [UInt8.ofNat (findS (2 * c + x) ((n : Int) + 1)).toNat])) else huM l (2 * c + x) (n + 1) o
theorem huM_nil (c : Int) (n : Nat) (o : List UInt8) : huM [] c n o = if 7 < n ∨ c ≠ 2 ^ n - 1 then ([], 10) else (o, 0) := rfl
theorem huM_no {x c : Int} {n : Nat} (l : List Int) (o : List UInt8) (h : ¬ findY (2 * c + x) ((n : Int) + 1) = true) : huM (x :: l) c n o = huM l (2 * c + x) (n + 1) o := by rw [huM, if_neg h]
theorem huM_end {x c : Int} {n : Nat} (l : List Int) (o : List UInt8) (h : findY (2 * c + x) ((n : Int) + 1) = true) (h2 : findS (2 * c + x) ((n : Int) + 1) = 256) : huM (x :: l) c n o = ([], 11) := by rw [huM, if_pos h, if_pos h2]
theorem huM_yes {x c : Int} {n : Nat} (l : List Int) (o : List UInt8) (h : findY (2 * c + x) ((n : Int) + 1) = true) (h2 : ¬ findS (2 * c + x) ((n : Int) + 1) = 256) : huM (x :: l) c n o = huM l 0 0 (o ++ [UInt8.ofNat (findS (2 * c + x) ((n : Int) + 1)).toNat]) := by rw [huM, if_pos h, if_neg h2]
end Go.Proofs.YtohbfcmmpaikhaaDoor
