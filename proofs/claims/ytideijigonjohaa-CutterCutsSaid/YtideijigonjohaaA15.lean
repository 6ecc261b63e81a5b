import Derived.Test.YtideijigonjohaaA02
set_option linter.unusedVariables false
set_option linter.unusedSimpArgs false
namespace Go.Proofs.Ytideijigonjohaa
open Go Go.Lf Go.Proofs
attribute [local irreducible] Lf.rg Lf.ro Lf.PWp Lf.SOp Lf.ACall Lf.Scoped Lf.dg
set_option maxRecDepth 20000
set_option maxHeartbeats 4000000
theorem powB_succ (k : Nat) : powB (k + 1) = 256 * powB k := rfl
theorem numB_cons (x : UInt8) (l : List UInt8) : numB (x :: l) = (x.toNat : Int) * powB l.length + numB l := by
  have key : ∀ (l : List UInt8) (n : Int), l.foldl (fun n x => n * 256 + (x.toNat : Int)) n = n * powB l.length + numB l := by
    intro l
    induction l with
    | nil => intro n; simp [numB, powB]
    | cons y l ih =>
      intro n
      have h1 := ih (n * 256 + (y.toNat : Int))
      have h2 := ih (0 * 256 + (y.toNat : Int))
      simp only [List.foldl_cons, List.length_cons, numB] at h1 h2 ⊢
      rw [h1, h2, powB_succ, Int.add_mul, Int.mul_assoc n 256, Int.zero_mul, Int.zero_add, Int.add_assoc]
  have := key l (0 * 256 + (x.toNat : Int))
  simpa [numB] using this
theorem powB_pos (k : Nat) : 0 < powB k := by
  induction k with
  | zero => decide
  | succ k ih => rw [powB_succ]; omega
theorem numB_bd' (l : List UInt8) : 0 ≤ numB l ∧ numB l < powB l.length := by
  induction l with
  | nil => decide
  | cons x l ih =>
    rw [numB_cons, List.length_cons, powB_succ]
    have hx : (x.toNat : Int) ≤ 255 := by have := x.toNat_lt; omega
    have hp := powB_pos l.length
    have h1 : (x.toNat : Int) * powB l.length ≤ 255 * powB l.length := Int.mul_le_mul_of_nonneg_right hx (by omega)
    have h2 : 0 ≤ (x.toNat : Int) * powB l.length := Int.mul_nonneg (by omega) (by omega)
    omega
theorem bv_low (z : BitVec 64) (hz : z.toNat < 2147483648) : z &&& ~~~(2147483648#64) = z ∧ (2147483648#64 ||| z) &&& ~~~(2147483648#64) = z ∧ z &&& 2147483648#64 = 0#64 ∧ (2147483648#64 ||| z) &&& 2147483648#64 = 2147483648#64 := by
  have hy : (2147483648#64) = BitVec.twoPow 64 31 := by decide
  have hb : z.getLsbD 31 = false := by
    show z.toNat.testBit 31 = false
    exact Nat.testBit_lt_two_pow hz
  have hb' : z[31] = false := by simpa using hb
  rw [hy]
  refine ⟨?_, ?_, ?_, ?_⟩ <;> apply BitVec.eq_of_getLsbD_eq <;> intro i hi <;> simp only [BitVec.getLsbD_and, BitVec.getLsbD_or, BitVec.getLsbD_not, BitVec.getLsbD_twoPow, BitVec.getLsbD_zero, hi, decide_true, Bool.true_and] <;> by_cases h : 31 = i <;> first | (subst h; simp [hb']; done) | (simp [h]; done)
theorem or_toNat (m : Nat) (h : m < 2147483648) : (2147483648#64 ||| BitVec.ofNat 64 m) = BitVec.ofNat 64 (2147483648 + m) := by
  apply BitVec.eq_of_toNat_eq
  rw [BitVec.toNat_or, BitVec.toNat_ofNat, BitVec.toNat_ofNat, BitVec.toNat_ofNat, Nat.mod_eq_of_lt (by omega), Nat.mod_eq_of_lt (by omega), Nat.mod_eq_of_lt (by omega)]
  have := Nat.two_pow_add_eq_or_of_lt (i := 31) (b := m) (by omega) 1
  exact this.symm
theorem ofInt_nat (n : Nat) : BitVec.ofInt 64 (n : Int) = BitVec.ofNat 64 n := rfl
theorem low_lo (n : Int) (h0 : 0 ≤ n) (h1 : n < 2147483648) : iandn .i64 n 2147483648 = n ∧ iand .i64 n 2147483648 = 0 ∧ ior .i64 n 2147483648 = n + 2147483648 := by
  obtain ⟨m, rfl⟩ := Int.eq_ofNat_of_zero_le h0
  have hm : m < 2147483648 := by omega
  have hz : (BitVec.ofNat 64 m).toNat < 2147483648 := by rw [BitVec.toNat_ofNat, Nat.mod_eq_of_lt (by omega)]; exact hm
  obtain ⟨b1, b2, b3, b4⟩ := bv_low _ hz
  refine ⟨?_, ?_, ?_⟩
  · show IntKind.i64.wrap ((BitVec.ofInt 64 (m : Int) &&& ~~~(BitVec.ofInt 64 2147483648)).toNat : Int) = _
    rw [ofInt_nat, show BitVec.ofInt 64 2147483648 = 2147483648#64 from rfl, b1, BitVec.toNat_ofNat, Nat.mod_eq_of_lt (by omega)]
    exact w64 (by omega)
  · show IntKind.i64.wrap ((BitVec.ofInt 64 (m : Int) &&& (BitVec.ofInt 64 2147483648)).toNat : Int) = _
    rw [ofInt_nat, show BitVec.ofInt 64 2147483648 = 2147483648#64 from rfl, b3]
    rfl
  · show IntKind.i64.wrap ((BitVec.ofInt 64 (m : Int) ||| (BitVec.ofInt 64 2147483648)).toNat : Int) = _
    rw [ofInt_nat, show BitVec.ofInt 64 2147483648 = 2147483648#64 from rfl, BitVec.or_comm, or_toNat m hm, BitVec.toNat_ofNat, Nat.mod_eq_of_lt (by omega)]
    rw [w64 (by omega)]
    omega
theorem low_hi (n : Int) (h0 : 2147483648 ≤ n) (h1 : n < 4294967296) : iandn .i64 n 2147483648 = n - 2147483648 ∧ iand .i64 n 2147483648 = 2147483648 := by
  obtain ⟨m, rfl⟩ : ∃ m : Nat, n = ((2147483648 + m : Nat) : Int) := ⟨(n - 2147483648).toNat, by omega⟩
  have hm : m < 2147483648 := by omega
  have hz : (BitVec.ofNat 64 m).toNat < 2147483648 := by rw [BitVec.toNat_ofNat, Nat.mod_eq_of_lt (by omega)]; exact hm
  obtain ⟨b1, b2, b3, b4⟩ := bv_low _ hz
  refine ⟨?_, ?_⟩
  · show IntKind.i64.wrap ((BitVec.ofInt 64 ((2147483648 + m : Nat) : Int) &&& ~~~(BitVec.ofInt 64 2147483648)).toNat : Int) = _
    rw [ofInt_nat, show BitVec.ofInt 64 2147483648 = 2147483648#64 from rfl, ← or_toNat m hm, b2, BitVec.toNat_ofNat, Nat.mod_eq_of_lt (by omega)]
    rw [w64 (by omega)]
    omega
  · show IntKind.i64.wrap ((BitVec.ofInt 64 ((2147483648 + m : Nat) : Int) &&& (BitVec.ofInt 64 2147483648)).toNat : Int) = _
    rw [ofInt_nat, show BitVec.ofInt 64 2147483648 = 2147483648#64 from rfl, ← or_toNat m hm, b4]
    rfl
theorem low_no (n : Int) (h : n < 0 ∨ 4294967296 ≤ n) : AEq Try.prog 126 [i64 n] [] (.tu [i64 0, bl false]) [] := by
  refine acall_body Try.func126 rfl Try.ntmps126 (by simp) (fun hsc => ?_); simp only [Lf.enter, Nat.reduceAdd]; clear hsc
  have hU := True.intro
  repeat' (first | (guard_target =~ PWp _ _ _ _ _ _ _; first | (refine pwp_seq_k (fun K hK => ?_)) | (refine pwp_rg_then ?_) | (refine pwp_ret ?_) | ((refine pwp_cond_d (fun hcd => ?_) (fun hcd => ?_)) <;> (try simp only [hcP] at hcd) <;> (try (exfalso; first | omega | exact absurd hcd (by assumption) | exact absurd (by assumption) hcd)))) | (guard_target =~ rg _ _ _ _ _ _ _; first | (guard_target =~ rg _ _ _ (⟨_, .binOp _ _ _ _ _, _, _, _, some _⟩ :: _) _ _ _; first | (refine rg_gq rfl (h := ?_))) | (guard_target =~ rg _ _ _ (⟨_, .move _, _, _, _, some _⟩ :: _) _ _ _; first | (refine rg_gq rfl (h := ?_))) | (guard_target =~ rg _ _ _ [] _ _ _; first | (refine rg_end ?_)) | (refine rg_a rfl (h := ?_)) | (refine rg_v rfl (h := ?_))) | (guard_target =~ (_ ∨ _) ∧ _; first | ((refine end_d [] (by rw [Try.results126, Lf.res2]) (ale_2 ?_ ?_) ?_) <;> (try (first | exact ale_eq (by with_reducible rfl) | exact ale_full | exact ale_sl (fun _ => rfl) | exact ale_sl (by simp) | exact ale_junk | exact ale_eq rfl | exact stq (by with_reducible rfl) | exact stq (by rfl) | exact stq (by simp (disch := omega) only [go_sem, seval, ↓reduceIte, hU]))))) | (refine hK _ _ ?_; clear hK K))
theorem low_is_lo (n : Int) (h0 : 0 ≤ n) (h1 : n < 2147483648) : AEq Try.prog 126 [i64 n] [] (.tu [i64 n, bl false]) [] := by
  obtain ⟨e1, e2, _⟩ := low_lo n h0 h1
  refine acall_body Try.func126 rfl Try.ntmps126 (by simp) (fun hsc => ?_); simp only [Lf.enter, Nat.reduceAdd]; clear hsc
  have hU := And.intro @e1 (@e2)
  repeat' (first | (guard_target =~ PWp _ _ _ _ _ _ _; first | (refine pwp_seq_k (fun K hK => ?_)) | (refine pwp_rg_then ?_) | (refine pwp_ret ?_) | (refine pwp_skip ?_) | ((refine pwp_cond_d (fun hcd => ?_) (fun hcd => ?_)) <;> (try simp only [hcP] at hcd) <;> (try (exfalso; first | omega | exact absurd hcd (by assumption) | exact absurd (by assumption) hcd)))) | (guard_target =~ rg _ _ _ _ _ _ _; first | (guard_target =~ rg _ _ _ (⟨_, .binOp _ _ _ _ _, _, _, _, some _⟩ :: _) _ _ _; first | (refine rg_gq rfl (h := ?_))) | (guard_target =~ rg _ _ _ (⟨_, .move _, _, _, _, some _⟩ :: _) _ _ _; first | (refine rg_gq rfl (h := ?_))) | (guard_target =~ rg _ _ _ [] _ _ _; first | (refine rg_end ?_)) | (refine rg_a rfl (h := ?_)) | (refine rg_v rfl (h := ?_))) | (guard_target =~ (_ ∨ _) ∧ _; first | ((refine end_d [] (by rw [Try.results126, Lf.res2]) (ale_2 ?_ ?_) ?_) <;> (try (first | exact ale_eq (by with_reducible rfl) | exact ale_full | exact ale_sl (fun _ => rfl) | exact ale_sl (by simp) | exact ale_junk | exact ale_eq rfl | exact stq (by with_reducible rfl) | exact stq (by rfl) | exact stq (by simp (disch := omega) only [go_sem, seval, ↓reduceIte, hU]))))) | (refine hK _ _ ?_; clear hK K))
theorem low_is_hi (n : Int) (h0 : 2147483648 ≤ n) (h1 : n < 4294967296) : AEq Try.prog 126 [i64 n] [] (.tu [i64 (n - 2147483648), bl true]) [] := by
  obtain ⟨e1, e2⟩ := low_hi n h0 h1
  refine acall_body Try.func126 rfl Try.ntmps126 (by simp) (fun hsc => ?_); simp only [Lf.enter, Nat.reduceAdd]; clear hsc
  have hU := And.intro @e1 (@e2)
  repeat' (first | (guard_target =~ PWp _ _ _ _ _ _ _; first | (refine pwp_seq_k (fun K hK => ?_)) | (refine pwp_rg_then ?_) | (refine pwp_ret ?_) | (refine pwp_skip ?_) | ((refine pwp_cond_d (fun hcd => ?_) (fun hcd => ?_)) <;> (try simp only [hcP] at hcd) <;> (try (exfalso; first | omega | exact absurd hcd (by assumption) | exact absurd (by assumption) hcd)))) | (guard_target =~ rg _ _ _ _ _ _ _; first | (guard_target =~ rg _ _ _ (⟨_, .binOp _ _ _ _ _, _, _, _, some _⟩ :: _) _ _ _; first | (refine rg_gq rfl (h := ?_))) | (guard_target =~ rg _ _ _ (⟨_, .move _, _, _, _, some _⟩ :: _) _ _ _; first | (refine rg_gq rfl (h := ?_))) | (guard_target =~ rg _ _ _ [] _ _ _; first | (refine rg_end ?_)) | (refine rg_a rfl (h := ?_)) | (refine rg_v rfl (h := ?_))) | (guard_target =~ (_ ∨ _) ∧ _; first | ((refine end_d [] (by rw [Try.results126, Lf.res2]) (ale_2 ?_ ?_) ?_) <;> (try (first | exact ale_eq (by with_reducible rfl) | exact ale_full | exact ale_sl (fun _ => rfl) | exact ale_sl (by simp) | exact ale_junk | exact ale_eq rfl | exact stq (by with_reducible rfl) | exact stq (by rfl) | exact stq (by simp (disch := omega) only [go_sem, seval, ↓reduceIte, hU]))))) | (refine hK _ _ ?_; clear hK K))
theorem rlow_no (n : Int) (h : n < 0 ∨ 4294967296 ≤ n) : AEq Try.prog 127 [i64 n] [] (.tu [i64 0, bl false]) [] := by
  refine acall_body Try.func127 rfl Try.ntmps127 (by simp) (fun hsc => ?_); simp only [Lf.enter, Nat.reduceAdd]; clear hsc
  have hU := True.intro
  repeat' (first | (guard_target =~ PWp _ _ _ _ _ _ _; first | (refine pwp_seq_k (fun K hK => ?_)) | (refine pwp_rg_then ?_) | (refine pwp_ret ?_) | ((refine pwp_cond_d (fun hcd => ?_) (fun hcd => ?_)) <;> (try simp only [hcP] at hcd) <;> (try (exfalso; first | omega | exact absurd hcd (by assumption) | exact absurd (by assumption) hcd)))) | (guard_target =~ rg _ _ _ _ _ _ _; first | (guard_target =~ rg _ _ _ (⟨_, .binOp _ _ _ _ _, _, _, _, some _⟩ :: _) _ _ _; first | (refine rg_gq rfl (h := ?_))) | (guard_target =~ rg _ _ _ (⟨_, .move _, _, _, _, some _⟩ :: _) _ _ _; first | (refine rg_gq rfl (h := ?_))) | (guard_target =~ rg _ _ _ [] _ _ _; first | (refine rg_end ?_)) | (refine rg_a rfl (h := ?_)) | (refine rg_v rfl (h := ?_))) | (guard_target =~ (_ ∨ _) ∧ _; first | ((refine end_d [] (by rw [Try.results127, Lf.res2]) (ale_2 ?_ ?_) ?_) <;> (try (first | exact ale_eq (by with_reducible rfl) | exact ale_full | exact ale_sl (fun _ => rfl) | exact ale_sl (by simp) | exact ale_junk | exact ale_eq rfl | exact stq (by with_reducible rfl) | exact stq (by rfl) | exact stq (by simp (disch := omega) only [go_sem, seval, ↓reduceIte, hU]))))) | (refine hK _ _ ?_; clear hK K))
theorem rlow_lo (n : Int) (h0 : 0 ≤ n) (h1 : n < 2147483648) : AEq Try.prog 127 [i64 n] [] (.tu [i64 n, bl false]) [] := by
  refine acall_body Try.func127 rfl Try.ntmps127 (by simp) (fun hsc => ?_); simp only [Lf.enter, Nat.reduceAdd]; clear hsc
  have hU := True.intro
  repeat' (first | (guard_target =~ PWp _ _ _ _ _ _ _; first | (refine pwp_seq_k (fun K hK => ?_)) | (refine pwp_rg_then ?_) | (refine pwp_ret ?_) | (refine pwp_skip ?_) | ((refine pwp_cond_d (fun hcd => ?_) (fun hcd => ?_)) <;> (try simp only [hcP] at hcd) <;> (try (exfalso; first | omega | exact absurd hcd (by assumption) | exact absurd (by assumption) hcd)))) | (guard_target =~ rg _ _ _ _ _ _ _; first | (guard_target =~ rg _ _ _ (⟨_, .binOp _ _ _ _ _, _, _, _, some _⟩ :: _) _ _ _; first | (refine rg_gq rfl (h := ?_))) | (guard_target =~ rg _ _ _ (⟨_, .move _, _, _, _, some _⟩ :: _) _ _ _; first | (refine rg_gq rfl (h := ?_))) | (guard_target =~ rg _ _ _ [] _ _ _; first | (refine rg_end ?_)) | (refine rg_a rfl (h := ?_)) | (refine rg_v rfl (h := ?_))) | (guard_target =~ (_ ∨ _) ∧ _; first | ((refine end_d [] (by rw [Try.results127, Lf.res2]) (ale_2 ?_ ?_) ?_) <;> (try (first | exact ale_eq (by with_reducible rfl) | exact ale_full | exact ale_sl (fun _ => rfl) | exact ale_sl (by simp) | exact ale_junk | exact ale_eq rfl | exact stq (by with_reducible rfl) | exact stq (by rfl) | exact stq (by simp (disch := omega) only [go_sem, seval, ↓reduceIte, hU]))))) | (refine hK _ _ ?_; clear hK K))
theorem rlow_hi (n : Int) (h0 : 2147483648 ≤ n) (h1 : n < 4294967296) : AEq Try.prog 127 [i64 n] [] (.tu [i64 (n - 2147483648), bl true]) [] := by
  refine acall_body Try.func127 rfl Try.ntmps127 (by simp) (fun hsc => ?_); simp only [Lf.enter, Nat.reduceAdd]; clear hsc
  have hU := True.intro
  repeat' (first | (guard_target =~ PWp _ _ _ _ _ _ _; first | (refine pwp_seq_k (fun K hK => ?_)) | (refine pwp_rg_then ?_) | (refine pwp_ret ?_) | (refine pwp_skip ?_) | ((refine pwp_cond_d (fun hcd => ?_) (fun hcd => ?_)) <;> (try simp only [hcP] at hcd) <;> (try (exfalso; first | omega | exact absurd hcd (by assumption) | exact absurd (by assumption) hcd)))) | (guard_target =~ rg _ _ _ _ _ _ _; first | (guard_target =~ rg _ _ _ (⟨_, .binOp _ _ _ _ _, _, _, _, some _⟩ :: _) _ _ _; first | (refine rg_gq rfl (h := ?_))) | (guard_target =~ rg _ _ _ (⟨_, .move _, _, _, _, some _⟩ :: _) _ _ _; first | (refine rg_gq rfl (h := ?_))) | (guard_target =~ rg _ _ _ [] _ _ _; first | (refine rg_end ?_)) | (refine rg_a rfl (h := ?_)) | (refine rg_v rfl (h := ?_))) | (guard_target =~ (_ ∨ _) ∧ _; first | ((refine end_d [] (by rw [Try.results127, Lf.res2]) (ale_2 ?_ ?_) ?_) <;> (try (first | exact ale_eq (by with_reducible rfl) | exact ale_full | exact ale_sl (fun _ => rfl) | exact ale_sl (by simp) | exact ale_junk | exact ale_eq rfl | exact stq (by with_reducible rfl) | exact stq (by rfl) | exact stq (by simp (disch := omega) only [go_sem, seval, ↓reduceIte, hU]))))) | (refine hK _ _ ?_; clear hK K))
end Go.Proofs.Ytideijigonjohaa
