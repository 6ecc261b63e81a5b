import Derived.Test.YtohbfcmmpaikhaaDoorK16
set_option linter.unusedVariables false
set_option linter.unusedSimpArgs false
namespace Go.Proofs.YtohbfcmmpaikhaaDoor
open Go Go.Lf Go.Proofs
attribute [local irreducible] Lf.rg Lf.ro Lf.PWp Lf.SOp Lf.ACall Lf.Scoped Lf.dg
set_option maxRecDepth 20000
set_option maxHeartbeats 4000000
theorem tab_c : ∀ i : Fin 257, 0 ≤ codO.getD i.val 0 ∧ codO.getD i.val 0 < 2 ^ (lenO.getD i.val 0) := by decide +kernel
theorem cs_lt {s : Nat} (h : s < 257) : 0 ≤ csI s ∧ csI s < 2 ^ (szI (s : Int)).toNat := by
  obtain ⟨h1, h2⟩ := sym_idx ⟨s, h⟩
  dsimp only at h1 h2
  generalize symT.idxOf s = i at h1 h2
  obtain ⟨s2, e1, e2, e3, e4⟩ := sym_at h1
  rw [h2] at e3
  subst e3
  have hc := sym_cs h1
  rw [h2] at hc
  have := tab_c ⟨i, h1⟩
  dsimp only at this
  rw [hc, e4, Int.toNat_natCast]
  exact this
def cdL (x : UInt8) : List Int := msb (csI x.toNat) (szI (x.toNat : Int)).toNat
theorem encS_eq (L : List Int) (x : UInt8) : encS L x = L ++ cdL x := by
  have hx := x.toNat_lt
  have h1 := cs_lt (s := x.toNat) (by omega)
  have h2 := szI_b x
  unfold encS rpL cdL
  have e : rpE (csI x.toNat) (szI (x.toNat : Int)) = 0 := by
    unfold rpE
    rw [if_neg (by omega), if_neg (by omega)]
  rw [if_pos e]
theorem fold_enc (b : List UInt8) (L : List Int) : b.foldl encS L = L ++ b.flatMap cdL := by
  induction b generalizing L with
  | nil => simp
  | cons x b ih => rw [List.foldl_cons, ih, encS_eq, List.flatMap_cons, List.append_assoc]
theorem encL_eq (b : List UInt8) : encL b = b.flatMap cdL := by unfold encL; rw [fold_enc]; rfl
theorem not_front {p : Nat} {c : Int} (hp : p ≤ 30) (h : codeN (p + 1) ≤ c) : ¬ findY c (p : Int) = true := by
  intro hy
  have hy := of_decide_eq_true hy
  rw [Int.toNat_natCast] at hy
  have e1 : codeN (p + 1) = codeN p * 2 + cntN 257 p := rfl
  have e2 : fstI p = codeN p * 2 := rfl
  omega
theorem cntN_nn (n : Nat) : 0 ≤ cntN 257 n := (cntN_bd (Nat.le_refl _)).1
theorem front_ge {n : Nat} {c : Int} (h : codeN n * 2 ≤ c) : ∀ q p : Nat, p + q = n → 1 ≤ q → codeN (p + 1) ≤ c / 2 ^ q := by
  intro q
  induction q with
  | zero => intro p _ h; omega
  | succ q ih =>
    intro p hp _
    by_cases hq : q = 0
    · subst hq
      obtain rfl : p + 1 = n := by omega
      rw [show (2 : Int) ^ (0 + 1) = 2 from rfl]; omega
    · have h1 := ih (p + 1) (by omega) (by omega)
      have e : codeN (p + 1 + 1) = codeN (p + 1) * 2 + cntN 257 (p + 1) := rfl
      have h2 := cntN_nn (p + 1)
      rw [Int.pow_succ, ← Int.ediv_ediv_of_nonneg (Int.le_of_lt (Int.pow_pos (by decide)))]
      omega
theorem hu_code {s : Nat} (h : s < 256) (l : List Int) (o : List UInt8) : huM (msb (csI s) (szI (s : Int)).toNat ++ l) 0 0 o = huM l 0 0 (o ++ [UInt8.ofNat s]) := by
  obtain ⟨hy, hS⟩ := find_of (s := s) (by omega)
  obtain ⟨hc0, hc1⟩ := cs_lt (s := s) (by omega)
  have hy2 := of_decide_eq_true hy
  obtain ⟨n, hn⟩ : ∃ n : Nat, szI (s : Int) = n := ⟨(szI (s : Int)).toNat, by omega⟩
  rw [hn] at hy hS hc1 hy2 ⊢
  rw [Int.toNat_natCast] at hc1 hy2 ⊢
  generalize hc : csI s = c at *
  have hge : codeN n * 2 ≤ c := hy2.2.2.1
  have key : ∀ q p : Nat, p + q = n → 1 ≤ q → huM (msb c q ++ l) (c / 2 ^ q) p o = huM l 0 0 (o ++ [UInt8.ofNat s]) := by
    intro q
    induction q with
    | zero => intro p _ h; omega
    | succ q ih =>
      intro p hp _
      have e : 2 * (c / 2 ^ (q + 1)) + c / 2 ^ q % 2 = c / 2 ^ q := by
        rw [Int.pow_succ, ← Int.ediv_ediv_of_nonneg (Int.le_of_lt (Int.pow_pos (by decide)))]; omega
      show huM ((c / 2 ^ q % 2) :: (msb c q ++ l)) (c / 2 ^ (q + 1)) p o = _
      by_cases hq : q = 0
      · subst hq
        have e0 : c / 2 ^ 0 = c := by rw [Int.pow_zero, Int.ediv_one]
        have ep : ((p : Int) + 1) = (n : Int) := by omega
        rw [huM_yes _ _ (by rw [e, e0, ep]; exact hy) (by rw [e, e0, ep, hS]; omega), e, e0, ep, hS, Int.toNat_natCast]
        rfl
      · have h1 := front_ge hge q (p + 1) (by omega) (by omega)
        have h2 := not_front (p := p + 1) (by omega) h1
        rw [huM_no _ _ (by rw [e]; exact h2), e]
        exact ih (p + 1) (by omega) (by omega)
  have := key n 0 (by omega) (by omega)
  rw [Int.ediv_eq_zero_of_lt hc0 hc1] at this
  exact this
theorem hu_codes (b : List UInt8) (l : List Int) (o : List UInt8) : huM (b.flatMap cdL ++ l) 0 0 o = huM l 0 0 (o ++ b) := by
  induction b generalizing o with
  | nil => simp
  | cons x b ih =>
    rw [List.flatMap_cons, List.append_assoc]
    have := hu_code x.toNat_lt (b.flatMap cdL ++ l) o
    show huM (msb (csI x.toNat) (szI (x.toNat : Int)).toNat ++ (b.flatMap cdL ++ l)) 0 0 o = _
    rw [this, ih]
    simp
theorem ones_no : ∀ p : Fin 7, findY (2 * (2 ^ p.val - 1) + 1) ((p.val : Nat) + 1) = false := by decide +kernel
theorem hu_ones (k : Nat) (o : List UInt8) : ∀ p : Nat, p + k ≤ 7 → huM (List.replicate k 1) (2 ^ p - 1) p o = (o, 0) := by
  induction k with
  | zero => intro p h; rw [List.replicate_zero, huM_nil, if_neg (by omega)]
  | succ k ih =>
    intro p h
    have h1 := ones_no ⟨p, by omega⟩
    dsimp only at h1
    rw [List.replicate_succ, huM_no _ _ (by rw [h1]; decide), show (2 : Int) * (2 ^ p - 1) + 1 = 2 ^ (p + 1) - 1 from by rw [Int.pow_succ]; omega]
    exact ih (p + 1) (by omega)
theorem hu_back (b : List UInt8) : huM (bitsL (rowB (encL b))) 0 0 [] = (b, 0) := by
  have hl := rowB_len (encL b)
  rw [bits_row _ (encL01 b), encL_eq, hu_codes, List.nil_append]
  rw [encL_eq] at hl
  exact hu_ones _ b 0 (by omega)
end Go.Proofs.YtohbfcmmpaikhaaDoor
