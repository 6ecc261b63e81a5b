import Derived.Test.YtohbfcmmpaikhaaDoorK20
set_option linter.unusedVariables false
set_option linter.unusedSimpArgs false
namespace Go.Proofs.YtohbfcmmpaikhaaDoor
open Go Go.Lf Go.Proofs
attribute [local irreducible] Lf.rg Lf.ro Lf.PWp Lf.SOp Lf.ACall Lf.Scoped Lf.dg
set_option maxRecDepth 20000
set_option maxHeartbeats 4000000
/-! what is put is got -/
theorem pw7s (a : Nat) : pwI (7 * ((a + 1 : Nat) : Int)) = 128 * pwI (7 * (a : Int)) := by
  unfold pwI
  have e1 : (7 * ((a + 1 : Nat) : Int)).toNat = 7 * a + 7 := by omega
  have e2 : (7 * (a : Int)).toNat = 7 * a := by omega
  rw [e1, e2, Int.pow_add]
  have : (2 : Int) ^ 7 = 128 := by decide
  rw [this, Int.mul_comm]
theorem pw7p (a : Nat) : 1 ≤ pwI (7 * (a : Int)) := by
  unfold pwI
  have e : ((2 : Int) ^ (7 * (a : Int)).toNat) = ((2 ^ (7 * (a : Int)).toNat : Nat) : Int) := by simp
  rw [e]
  have := Nat.pow_pos (n := (7 * (a : Int)).toNat) (show 0 < 2 by decide)
  omega
theorem pgF_dig : ∀ (k a : Nat) (m n0 : Int) (p z : List UInt8), p.length = a + 1 → 0 ≤ m → m < 128 ^ (k + 1) → n0 + m * pwI (7 * (a : Int)) ≤ 2147483647 → pgF (p ++ (digF k m ++ z)) (k + 1) a n0 = (n0 + m * pwI (7 * (a : Int)), (a : Int) + 1 + ((digF k m).length : Int), 0) := by
  have last : ∀ (k a : Nat) (m n0 : Int) (p z : List UInt8), p.length = a + 1 → 0 ≤ m → m < 128 → n0 + m * pwI (7 * (a : Int)) ≤ 2147483647 → pgF (p ++ (oneB m ++ z)) (k + 1) a n0 = (n0 + m * pwI (7 * (a : Int)), (a : Int) + 1 + ((oneB m).length : Int), 0) := by
    intro k a m n0 p z hp h0 h1 hn
    have hx : (p ++ (oneB m ++ z))[a + 1]? = some (byI m) := by
      rw [List.getElem?_append_right (by omega), hp, Nat.sub_self]; rfl
    have hv := byI_val h0 (show m ≤ 255 by omega)
    have hmm : ((byI m).toNat : Int) % 128 = m := by omega
    rw [pgF_end hx (by omega) (by rw [hmm]; omega), hmm, oneB_len]
    simp only [Prod.mk.injEq, and_true, true_and]
    omega
  intro k
  induction k with
  | zero => intro a m n0 p z hp h0 h1 hn; exact last 0 a m n0 p z hp h0 (by simpa using h1) hn
  | succ k ih =>
    intro a m n0 p z hp h0 h1 hn
    by_cases hlt : m < 128
    · rw [digF_lt hlt]; exact last (k + 1) a m n0 p z hp h0 hlt hn
    · rw [digF_ge hlt]
      have hv := byI_val (x := 128 + m % 128) (by omega) (by omega)
      have hx : (p ++ (oneB (128 + m % 128) ++ digF k (m / 128) ++ z))[a + 1]? = some (byI (128 + m % 128)) := by
        rw [List.getElem?_append_right (by omega), hp, Nat.sub_self]; rfl
      have hmm : ((byI (128 + m % 128)).toNat : Int) % 128 = m % 128 := by omega
      have hs : n0 + m % 128 * pwI (7 * (a : Int)) + m / 128 * pwI (7 * ((a + 1 : Nat) : Int)) = n0 + m * pwI (7 * (a : Int)) := by
        rw [pw7s]
        have e : m / 128 * (128 * pwI (7 * (a : Int))) = (128 * (m / 128)) * pwI (7 * (a : Int)) := by rw [← Int.mul_assoc, Int.mul_comm (m / 128) 128]
        rw [e, Int.add_assoc, ← Int.add_mul]
        congr 2; omega
      rw [pgF_more hx (by omega), hmm]
      rw [Int.pow_succ] at h1
      have hp2 : (p ++ oneB (128 + m % 128)).length = a + 1 + 1 := by rw [List.length_append, oneB_len, hp]
      have h3 := ih (a + 1) (m / 128) (n0 + m % 128 * pwI (7 * (a : Int))) (p ++ oneB (128 + m % 128)) z hp2 (by omega) (by omega) (by rw [hs]; exact hn)
      rw [hs] at h3
      rw [show p ++ (oneB (128 + m % 128) ++ digF k (m / 128) ++ z) = p ++ oneB (128 + m % 128) ++ (digF k (m / 128) ++ z) by simp [List.append_assoc], h3, List.length_append, oneB_len]
      simp only [Prod.mk.injEq, and_true, true_and]
      omega
theorem pg_back {f c n : Int} (z : List UInt8) (h1 : 1 ≤ c) (h8 : c ≤ 8) (h0 : 0 ≤ f) (h255 : f ≤ 255) (hf : f % pwI c = 0) (hn0 : 0 ≤ n) (hn1 : n ≤ 2147483647) : pgG (pfxP f c n ++ z) c = (n, ((pfxP f c n).length : Int), 0) := by
  have hp := pwI_bd h1 h8
  have hfp : ∀ m, 0 ≤ m → m < pwI c → (f + m) % pwI c = m := by
    intro m hm0 hm1
    rw [Int.add_emod, hf, Int.zero_add, Int.emod_emod_of_dvd _ (Int.dvd_refl _), Int.emod_eq_of_lt hm0 hm1]
  by_cases hlt : n < pwI c - 1
  · have hle := (pwI_or h1 h8 hf h0 h255 hn0 (by omega)).2
    rw [pfxP_lt hlt]
    have hx : (oneB (f + n) ++ z)[0]? = some (byI (f + n)) := rfl
    have hv := byI_val (x := f + n) (by omega) (by omega)
    have hm := hfp n hn0 (by omega)
    rw [pgG_lt hx (by rw [hv, hm]; exact hlt), hv, hm, oneB_len]; rfl
  · have hle := (pwI_or (n := pwI c - 1) h1 h8 hf h0 h255 (by omega) (by omega)).2
    rw [pfxP_ge hlt]
    have hx : (oneB (f + pwI c - 1) ++ digF 4 (n - (pwI c - 1)) ++ z)[0]? = some (byI (f + pwI c - 1)) := rfl
    have hv := byI_val (x := f + pwI c - 1) (by omega) (by omega)
    have hm := hfp (pwI c - 1) (by omega) (by omega)
    have hm2 : ((byI (f + pwI c - 1)).toNat : Int) % pwI c = pwI c - 1 := by rw [hv, show f + pwI c - 1 = f + (pwI c - 1) from by omega, hm]
    have h70 : pwI (7 * ((0 : Nat) : Int)) = 1 := by decide
    rw [pgG_ge hx (by rw [hm2]; omega), hm2, List.append_assoc, pgF_dig 4 0 _ _ _ _ (oneB_len _) (by omega) (by omega) (by rw [h70]; omega), h70, List.length_append, oneB_len]
    simp only [Prod.mk.injEq, and_true, true_and]
    omega
theorem pfx_first {f c n : Int} (h1 : 1 ≤ c) (h8 : c ≤ 8) (h0 : 0 ≤ f) (h255 : f ≤ 255) (hf : f % pwI c = 0) (hn0 : 0 ≤ n) : ∃ x : UInt8, ∃ r, pfxP f c n = x :: r ∧ f ≤ (x.toNat : Int) ∧ (x.toNat : Int) < f + pwI c := by
  have hp := pwI_bd h1 h8
  by_cases hlt : n < pwI c - 1
  · have hle := (pwI_or h1 h8 hf h0 h255 hn0 (by omega)).2
    have hv := byI_val (x := f + n) (by omega) (by omega)
    rw [pfxP_lt hlt]
    exact ⟨byI (f + n), [], rfl, by omega, by omega⟩
  · have hle := (pwI_or (n := pwI c - 1) h1 h8 hf h0 h255 (by omega) (by omega)).2
    have hv := byI_val (x := f + pwI c - 1) (by omega) (by omega)
    rw [pfxP_ge hlt]
    exact ⟨byI (f + pwI c - 1), digF 4 (n - (pwI c - 1)), rfl, by omega, by omega⟩
end Go.Proofs.YtohbfcmmpaikhaaDoor
