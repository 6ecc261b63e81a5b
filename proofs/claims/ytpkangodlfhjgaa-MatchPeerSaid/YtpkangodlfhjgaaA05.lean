import Derived.Test.YtpkangodlfhjgaaA04
set_option linter.unusedVariables false
set_option linter.unusedSimpArgs false
namespace Go.Proofs.Ytpkangodlfhjgaa
open Go Go.Lf Go.Proofs
attribute [local irreducible] Lf.rg Lf.ro Lf.PWp Lf.SOp Lf.ACall Lf.Scoped Lf.dg
set_option maxRecDepth 20000
set_option maxHeartbeats 4000000
/-! Numbers and bytes: there and back. -/
theorem powB_succ (k : Nat) : powB (k + 1) = 256 * powB k := rfl
theorem numB_cons (x : UInt8) (l : List UInt8) : numB (x :: l) = (x.toNat : Int) * powB l.length + numB l := by
  have key : ∀ (l : List UInt8) (n : Int), l.foldl (fun n x => n * 256 + (x.toNat : Int)) n = n * powB l.length + numB l := by
    intro l
    induction l with
    | nil => intro n; simp [numB, powB]
    | cons y l ih =>
      intro n
      have h1 := ih (n * 256 + (y.toNat : Int))
      have h2 := ih (0 * 256 + (y.toNat : Int))
      simp only [List.foldl_cons, List.length_cons, numB] at h1 h2 ⊢
      rw [h1, h2, powB_succ, Int.add_mul, Int.mul_assoc n 256, Int.zero_mul, Int.zero_add, Int.add_assoc]
  have := key l (0 * 256 + (x.toNat : Int))
  simpa [numB] using this
theorem powB_pos (k : Nat) : 0 < powB k := by
  induction k with
  | zero => decide
  | succ k ih => rw [powB_succ]; omega
theorem numB_beB (n : Int) (h0 : 0 ≤ n) : ∀ k, numB (beB n k) = n % powB k
  | 0 => by simp [beB, numB, powB]
  | k + 1 => by
    show numB (byteAt n k :: beB n k) = _
    rw [numB_cons, beB_len, numB_beB n h0 k, byteAt_nat, powB_succ]
    have hp := powB_pos k
    have h1 := Int.emod_add_mul_ediv n (powB k)
    have h2 := Int.emod_add_mul_ediv (n / powB k) 256
    have h3 := Int.emod_nonneg n (show powB k ≠ 0 by omega)
    have h4 := Int.emod_lt_of_pos n hp
    have h5 := Int.emod_nonneg (n / powB k) (show (256 : Int) ≠ 0 by omega)
    have h6 := Int.emod_lt_of_pos (n / powB k) (show (0 : Int) < 256 by omega)
    have h7 : n / powB k % 256 * powB k ≤ 255 * powB k := Int.mul_le_mul_of_nonneg_right (by omega) (by omega)
    have h8 : 0 ≤ n / powB k % 256 * powB k := Int.mul_nonneg h5 (by omega)
    have e : n = (n / powB k % 256 * powB k + n % powB k) + (256 * powB k) * (n / powB k / 256) := by
      have h9 : powB k * (n / powB k) = n / powB k % 256 * powB k + (256 * powB k) * (n / powB k / 256) := by
        have := congrArg (fun z => powB k * z) h2
        simp only [Int.mul_add] at this
        rw [← this, Int.mul_comm (powB k) (n / powB k % 256), ← Int.mul_assoc (powB k) 256, Int.mul_comm (powB k) 256]
      omega
    have e2 : n % (256 * powB k) = (n / powB k % 256 * powB k + n % powB k) % (256 * powB k) := by
      have := congrArg (fun z => z % (256 * powB k)) e
      rw [this, Int.add_mul_emod_self_left]
    rw [e2]
    exact (Int.emod_eq_of_lt (by omega) (by omega)).symm
theorem numB_bd' (l : List UInt8) : 0 ≤ numB l ∧ numB l < powB l.length := by
  induction l with
  | nil => decide
  | cons x l ih =>
    rw [numB_cons, List.length_cons, powB_succ]
    have hx : (x.toNat : Int) ≤ 255 := by have := x.toNat_lt; omega
    have hp := powB_pos l.length
    have h1 : (x.toNat : Int) * powB l.length ≤ 255 * powB l.length := Int.mul_le_mul_of_nonneg_right hx (by omega)
    have h2 : 0 ≤ (x.toNat : Int) * powB l.length := Int.mul_nonneg (by omega) (by omega)
    omega
theorem beB_numB : ∀ l : List UInt8, beB (numB l) l.length = l
  | [] => rfl
  | x :: l => by
    have hb := numB_bd' l
    have hp := powB_pos l.length
    have hx := x.toNat_lt
    show byteAt (numB (x :: l)) l.length :: beB (numB (x :: l)) l.length = x :: l
    have e1 : byteAt (numB (x :: l)) l.length = x := by
      apply UInt8.toNat_inj.1
      have h1 := byteAt_nat (numB (x :: l)) l.length
      have hq : numB (x :: l) / powB l.length % 256 = (x.toNat : Int) := by
        rw [numB_cons, Int.add_comm, Int.mul_comm, Int.add_mul_ediv_left _ _ (by omega), Int.ediv_eq_zero_of_lt hb.1 hb.2, Int.zero_add, Int.emod_eq_of_lt (by omega) (by omega)]
      omega
    have e2 : ∀ k, k ≤ l.length → beB (numB (x :: l)) k = beB (numB l) k := by
      intro k
      induction k with
      | zero => intro _; rfl
      | succ k ih =>
        intro hk
        show byteAt _ k :: _ = byteAt _ k :: _
        rw [ih (by omega)]
        congr 1
        apply UInt8.toNat_inj.1
        have h1 := byteAt_nat (numB (x :: l)) k
        have h2 := byteAt_nat (numB l) k
        have hk' : ∃ c, powB l.length = powB k * (256 * c) := by
          have : ∀ d, ∃ c, powB (k + 1 + d) = powB k * (256 * c) := by
            intro d
            induction d with
            | zero => exact ⟨1, by show 256 * powB k = _; rw [Int.mul_one, Int.mul_comm]⟩
            | succ d ihd =>
              obtain ⟨c, hc⟩ := ihd
              exact ⟨256 * c, by rw [show k + 1 + (d + 1) = (k + 1 + d) + 1 from rfl, powB_succ, hc, Int.mul_left_comm, Int.mul_left_comm 256 256 c, Int.mul_left_comm]⟩
          have := this (l.length - (k + 1))
          rwa [show k + 1 + (l.length - (k + 1)) = l.length by omega] at this
        obtain ⟨c, hc⟩ := hk'
        have hpk := powB_pos k
        have hq : numB (x :: l) / powB k % 256 = numB l / powB k % 256 := by
          rw [numB_cons, hc, Int.add_comm, Int.mul_left_comm (x.toNat : Int) (powB k), Int.add_mul_ediv_left _ _ (by omega), Int.mul_left_comm (x.toNat : Int) 256 c, Int.add_mul_emod_self_left]
        omega
    rw [e1, e2 _ (Nat.le_refl _), beB_numB l]
theorem back2 (b : List UInt8) (size : Int) (h : getE b size = 0) : 1 ≤ size ∧ size ≤ 4 ∧ size ≤ b.length ∧ putE (getN b size) size = 0 ∧ putL [] (getN b size) size = b.take size.toNat := by
  cases ho : okS size with
  | false => rw [getE, if_pos ho] at h; omega
  | true =>
    have ho' := ho
    simp only [okS, Bool.and_eq_true, decide_eq_true_eq] at ho'
    rw [getE, if_neg (by rw [ho]; simp)] at h
    have hle : size ≤ b.length := by split at h <;> omega
    have e : getN b size = numB (b.take size.toNat) := if_pos ⟨ho, hle⟩
    have hlen : (b.take size.toNat).length = size.toNat := by rw [List.length_take]; omega
    have hbd := numB_bd' (b.take size.toNat)
    have hbb := beB_numB (b.take size.toNat)
    rw [hlen] at hbd hbb
    have htl := topN_lt size ho'.1 ho'.2
    rw [e]
    have hp : putE (numB (b.take size.toNat)) size = 0 := by
      rw [putE, if_neg (by rw [ho]; simp), if_neg (by omega)]
    exact ⟨ho'.1, ho'.2, hle, hp, by simp [putL, hp, hbb]⟩
theorem loop_is (l : List UInt8) : ∀ (k i : Nat) (r : List UInt8), i + k = l.length → ByteArray.toList.loop ⟨l.toArray⟩ i r = r.reverse ++ l.drop i := by
  intro k
  induction k with
  | zero =>
    intro i r h
    unfold ByteArray.toList.loop
    have hs : (ByteArray.mk l.toArray).size = l.length := rfl
    rw [if_neg (by rw [hs]; omega), List.drop_of_length_le (by omega), List.append_nil]
  | succ k ih =>
    intro i r h
    unfold ByteArray.toList.loop
    have hs : (ByteArray.mk l.toArray).size = l.length := rfl
    rw [if_pos (by rw [hs]; omega), ih (i + 1) _ (by omega)]
    have hg : (ByteArray.mk l.toArray).get! i = l[i]'(by omega) := by
      show (l.toArray)[i]! = _
      simp [show i < l.length by omega]
    rw [hg, List.reverse_cons, List.append_assoc]
    congr 1
    rw [List.drop_eq_getElem_cons (i := i) (by omega)]
    rfl
theorem toList_mk (l : List UInt8) : ByteArray.toList ⟨l.toArray⟩ = l := by
  unfold ByteArray.toList
  rw [loop_is l l.length 0 [] (by omega)]
  simp
theorem str_eq (a b : List UInt8) : (ByteArray.toList ⟨a.toArray⟩ == ByteArray.toList ⟨b.toArray⟩) = decide (a = b) := by
  rw [toList_mk, toList_mk]
  by_cases h : a = b <;> simp [h]
theorem bv_low (z : BitVec 64) (hz : z.toNat < 2147483648) : z &&& ~~~(2147483648#64) = z ∧ (2147483648#64 ||| z) &&& ~~~(2147483648#64) = z ∧ z &&& 2147483648#64 = 0#64 ∧ (2147483648#64 ||| z) &&& 2147483648#64 = 2147483648#64 := by
  have hy : (2147483648#64) = BitVec.twoPow 64 31 := by decide
  have hb : z.getLsbD 31 = false := by
    show z.toNat.testBit 31 = false
    exact Nat.testBit_lt_two_pow hz
  have hb' : z[31] = false := by simpa using hb
  rw [hy]
  refine ⟨?_, ?_, ?_, ?_⟩ <;> apply BitVec.eq_of_getLsbD_eq <;> intro i hi <;> simp only [BitVec.getLsbD_and, BitVec.getLsbD_or, BitVec.getLsbD_not, BitVec.getLsbD_twoPow, BitVec.getLsbD_zero, hi, decide_true, Bool.true_and] <;> by_cases h : 31 = i <;> first | (subst h; simp [hb']; done) | (simp [h]; done)
theorem or_toNat (m : Nat) (h : m < 2147483648) : (2147483648#64 ||| BitVec.ofNat 64 m) = BitVec.ofNat 64 (2147483648 + m) := by
  apply BitVec.eq_of_toNat_eq
  rw [BitVec.toNat_or, BitVec.toNat_ofNat, BitVec.toNat_ofNat, BitVec.toNat_ofNat, Nat.mod_eq_of_lt (by omega), Nat.mod_eq_of_lt (by omega), Nat.mod_eq_of_lt (by omega)]
  have := Nat.two_pow_add_eq_or_of_lt (i := 31) (b := m) (by omega) 1
  exact this.symm
theorem ofInt_nat (n : Nat) : BitVec.ofInt 64 (n : Int) = BitVec.ofNat 64 n := rfl
theorem low_lo (n : Int) (h0 : 0 ≤ n) (h1 : n < 2147483648) : iandn .i64 n 2147483648 = n ∧ iand .i64 n 2147483648 = 0 ∧ ior .i64 n 2147483648 = n + 2147483648 := by
  obtain ⟨m, rfl⟩ := Int.eq_ofNat_of_zero_le h0
  have hm : m < 2147483648 := by omega
  have hz : (BitVec.ofNat 64 m).toNat < 2147483648 := by rw [BitVec.toNat_ofNat, Nat.mod_eq_of_lt (by omega)]; exact hm
  obtain ⟨b1, b2, b3, b4⟩ := bv_low _ hz
  refine ⟨?_, ?_, ?_⟩
  · show IntKind.i64.wrap ((BitVec.ofInt 64 (m : Int) &&& ~~~(BitVec.ofInt 64 2147483648)).toNat : Int) = _
    rw [ofInt_nat, show BitVec.ofInt 64 2147483648 = 2147483648#64 from rfl, b1, BitVec.toNat_ofNat, Nat.mod_eq_of_lt (by omega)]
    exact w64 (by omega)
  · show IntKind.i64.wrap ((BitVec.ofInt 64 (m : Int) &&& (BitVec.ofInt 64 2147483648)).toNat : Int) = _
    rw [ofInt_nat, show BitVec.ofInt 64 2147483648 = 2147483648#64 from rfl, b3]
    rfl
  · show IntKind.i64.wrap ((BitVec.ofInt 64 (m : Int) ||| (BitVec.ofInt 64 2147483648)).toNat : Int) = _
    rw [ofInt_nat, show BitVec.ofInt 64 2147483648 = 2147483648#64 from rfl, BitVec.or_comm, or_toNat m hm, BitVec.toNat_ofNat, Nat.mod_eq_of_lt (by omega)]
    rw [w64 (by omega)]
    omega
theorem low_hi (n : Int) (h0 : 2147483648 ≤ n) (h1 : n < 4294967296) : iandn .i64 n 2147483648 = n - 2147483648 ∧ iand .i64 n 2147483648 = 2147483648 := by
  obtain ⟨m, rfl⟩ : ∃ m : Nat, n = ((2147483648 + m : Nat) : Int) := ⟨(n - 2147483648).toNat, by omega⟩
  have hm : m < 2147483648 := by omega
  have hz : (BitVec.ofNat 64 m).toNat < 2147483648 := by rw [BitVec.toNat_ofNat, Nat.mod_eq_of_lt (by omega)]; exact hm
  obtain ⟨b1, b2, b3, b4⟩ := bv_low _ hz
  refine ⟨?_, ?_⟩
  · show IntKind.i64.wrap ((BitVec.ofInt 64 ((2147483648 + m : Nat) : Int) &&& ~~~(BitVec.ofInt 64 2147483648)).toNat : Int) = _
    rw [ofInt_nat, show BitVec.ofInt 64 2147483648 = 2147483648#64 from rfl, ← or_toNat m hm, b2, BitVec.toNat_ofNat, Nat.mod_eq_of_lt (by omega)]
    rw [w64 (by omega)]
    omega
  · show IntKind.i64.wrap ((BitVec.ofInt 64 ((2147483648 + m : Nat) : Int) &&& (BitVec.ofInt 64 2147483648)).toNat : Int) = _
    rw [ofInt_nat, show BitVec.ofInt 64 2147483648 = 2147483648#64 from rfl, ← or_toNat m hm, b4]
    rfl
theorem low_is_lo (n : Int) (h0 : 0 ≤ n) (h1 : n < 2147483648) : AEq Try.prog 102 [i64 n] [] (.tu [i64 n, bl false]) [] := by
  obtain ⟨e1, e2, _⟩ := low_lo n h0 h1
  refine acall_body Try.func102 rfl Try.ntmps102 (by simp) (fun hsc => ?_); simp only [Lf.enter, Nat.reduceAdd]; clear hsc
  have hU := And.intro @e1 (@e2)
  repeat' (first | (guard_target =~ PWp _ _ _ _ _ _ _; first | (refine pwp_seq_k (fun K hK => ?_)) | (refine pwp_rg_then ?_) | (refine pwp_ret ?_) | (refine pwp_skip ?_) | ((refine pwp_cond_d (fun hcd => ?_) (fun hcd => ?_)) <;> (try simp only [hcP] at hcd) <;> (try (exfalso; first | omega | exact absurd hcd (by assumption) | exact absurd (by assumption) hcd)))) | (guard_target =~ rg _ _ _ _ _ _ _; first | (guard_target =~ rg _ _ _ (⟨_, .move _, _, _, _, some _⟩ :: _) _ _ _; first | (refine rg_gq rfl (h := ?_))) | (guard_target =~ rg _ _ _ (⟨_, .binOp _ _ _ _ _, _, _, _, some _⟩ :: _) _ _ _; first | (refine rg_gq rfl (h := ?_))) | (guard_target =~ rg _ _ _ [] _ _ _; first | (refine rg_end ?_)) | (refine rg_a rfl (h := ?_)) | (refine rg_v rfl (h := ?_))) | (guard_target =~ (_ ∨ _) ∧ _; first | ((refine end_d [] (by rw [Try.results102, Lf.res2]) (ale_2 ?_ ?_) ?_) <;> (try (first | exact ale_eq (by with_reducible rfl) | exact ale_full | exact ale_sl (fun _ => rfl) | exact ale_sl (by simp) | exact ale_junk | exact ale_eq rfl | exact stq (by with_reducible rfl) | exact stq (by rfl) | exact stq (by simp (disch := omega) only [go_sem, seval, ↓reduceIte, hU]))))) | (refine hK _ _ ?_; clear hK K))
theorem low_is_hi (n : Int) (h0 : 2147483648 ≤ n) (h1 : n < 4294967296) : AEq Try.prog 102 [i64 n] [] (.tu [i64 (n - 2147483648), bl true]) [] := by
  obtain ⟨e1, e2⟩ := low_hi n h0 h1
  refine acall_body Try.func102 rfl Try.ntmps102 (by simp) (fun hsc => ?_); simp only [Lf.enter, Nat.reduceAdd]; clear hsc
  have hU := And.intro @e1 (@e2)
  repeat' (first | (guard_target =~ PWp _ _ _ _ _ _ _; first | (refine pwp_seq_k (fun K hK => ?_)) | (refine pwp_rg_then ?_) | (refine pwp_ret ?_) | (refine pwp_skip ?_) | ((refine pwp_cond_d (fun hcd => ?_) (fun hcd => ?_)) <;> (try simp only [hcP] at hcd) <;> (try (exfalso; first | omega | exact absurd hcd (by assumption) | exact absurd (by assumption) hcd)))) | (guard_target =~ rg _ _ _ _ _ _ _; first | (guard_target =~ rg _ _ _ (⟨_, .move _, _, _, _, some _⟩ :: _) _ _ _; first | (refine rg_gq rfl (h := ?_))) | (guard_target =~ rg _ _ _ (⟨_, .binOp _ _ _ _ _, _, _, _, some _⟩ :: _) _ _ _; first | (refine rg_gq rfl (h := ?_))) | (guard_target =~ rg _ _ _ [] _ _ _; first | (refine rg_end ?_)) | (refine rg_a rfl (h := ?_)) | (refine rg_v rfl (h := ?_))) | (guard_target =~ (_ ∨ _) ∧ _; first | ((refine end_d [] (by rw [Try.results102, Lf.res2]) (ale_2 ?_ ?_) ?_) <;> (try (first | exact ale_eq (by with_reducible rfl) | exact ale_full | exact ale_sl (fun _ => rfl) | exact ale_sl (by simp) | exact ale_junk | exact ale_eq rfl | exact stq (by with_reducible rfl) | exact stq (by rfl) | exact stq (by simp (disch := omega) only [go_sem, seval, ↓reduceIte, hU]))))) | (refine hK _ _ ?_; clear hK K))
theorem rlow_lo (n : Int) (h0 : 0 ≤ n) (h1 : n < 2147483648) : AEq Try.prog 77 [i64 n] [] (.tu [i64 n, bl false]) [] := by
  refine acall_body Try.func77 rfl Try.ntmps77 (by simp) (fun hsc => ?_); simp only [Lf.enter, Nat.reduceAdd]; clear hsc
  have hU := True.intro
  repeat' (first | (guard_target =~ PWp _ _ _ _ _ _ _; first | (refine pwp_seq_k (fun K hK => ?_)) | (refine pwp_rg_then ?_) | (refine pwp_ret ?_) | (refine pwp_skip ?_) | ((refine pwp_cond_d (fun hcd => ?_) (fun hcd => ?_)) <;> (try simp only [hcP] at hcd) <;> (try (exfalso; first | omega | exact absurd hcd (by assumption) | exact absurd (by assumption) hcd)))) | (guard_target =~ rg _ _ _ _ _ _ _; first | (guard_target =~ rg _ _ _ (⟨_, .move _, _, _, _, some _⟩ :: _) _ _ _; first | (refine rg_gq rfl (h := ?_))) | (guard_target =~ rg _ _ _ (⟨_, .binOp _ _ _ _ _, _, _, _, some _⟩ :: _) _ _ _; first | (refine rg_gq rfl (h := ?_))) | (guard_target =~ rg _ _ _ [] _ _ _; first | (refine rg_end ?_)) | (refine rg_a rfl (h := ?_)) | (refine rg_v rfl (h := ?_))) | (guard_target =~ (_ ∨ _) ∧ _; first | ((refine end_d [] (by rw [Try.results77, Lf.res2]) (ale_2 ?_ ?_) ?_) <;> (try (first | exact ale_eq (by with_reducible rfl) | exact ale_full | exact ale_sl (fun _ => rfl) | exact ale_sl (by simp) | exact ale_junk | exact ale_eq rfl | exact stq (by with_reducible rfl) | exact stq (by rfl) | exact stq (by simp (disch := omega) only [go_sem, seval, ↓reduceIte, hU]))))) | (refine hK _ _ ?_; clear hK K))
theorem rlow_hi (n : Int) (h0 : 2147483648 ≤ n) (h1 : n < 4294967296) : AEq Try.prog 77 [i64 n] [] (.tu [i64 (n - 2147483648), bl true]) [] := by
  refine acall_body Try.func77 rfl Try.ntmps77 (by simp) (fun hsc => ?_); simp only [Lf.enter, Nat.reduceAdd]; clear hsc
  have hU := True.intro
  repeat' (first | (guard_target =~ PWp _ _ _ _ _ _ _; first | (refine pwp_seq_k (fun K hK => ?_)) | (refine pwp_rg_then ?_) | (refine pwp_ret ?_) | (refine pwp_skip ?_) | ((refine pwp_cond_d (fun hcd => ?_) (fun hcd => ?_)) <;> (try simp only [hcP] at hcd) <;> (try (exfalso; first | omega | exact absurd hcd (by assumption) | exact absurd (by assumption) hcd)))) | (guard_target =~ rg _ _ _ _ _ _ _; first | (guard_target =~ rg _ _ _ (⟨_, .move _, _, _, _, some _⟩ :: _) _ _ _; first | (refine rg_gq rfl (h := ?_))) | (guard_target =~ rg _ _ _ (⟨_, .binOp _ _ _ _ _, _, _, _, some _⟩ :: _) _ _ _; first | (refine rg_gq rfl (h := ?_))) | (guard_target =~ rg _ _ _ [] _ _ _; first | (refine rg_end ?_)) | (refine rg_a rfl (h := ?_)) | (refine rg_v rfl (h := ?_))) | (guard_target =~ (_ ∨ _) ∧ _; first | ((refine end_d [] (by rw [Try.results77, Lf.res2]) (ale_2 ?_ ?_) ?_) <;> (try (first | exact ale_eq (by with_reducible rfl) | exact ale_full | exact ale_sl (fun _ => rfl) | exact ale_sl (by simp) | exact ale_junk | exact ale_eq rfl | exact stq (by with_reducible rfl) | exact stq (by rfl) | exact stq (by simp (disch := omega) only [go_sem, seval, ↓reduceIte, hU]))))) | (refine hK _ _ ?_; clear hK K))
theorem with_no (n : Int) (t : Bool) (h : n < 0 ∨ 2147483648 ≤ n) : AEq Try.prog 100 [i64 n, bl t] [] (.tu [i64 0, i64 5]) [] := by
  refine acall_body Try.func100 rfl Try.ntmps100 (by simp) (fun hsc => ?_); simp only [Lf.enter, Nat.reduceAdd]; clear hsc
  have hU := True.intro
  repeat' (first | (guard_target =~ PWp _ _ _ _ _ _ _; first | (refine pwp_seq_k (fun K hK => ?_)) | (refine pwp_block ?_) | (refine pwp_rg_then ?_) | (refine pwp_ret ?_) | ((refine pwp_cond_d (fun hcd => ?_) (fun hcd => ?_)) <;> (try simp only [hcP] at hcd) <;> (try (exfalso; first | omega | exact absurd hcd (by assumption) | exact absurd (by assumption) hcd)))) | (guard_target =~ rg _ _ _ _ _ _ _; first | (guard_target =~ rg _ _ _ (⟨_, .move _, _, _, _, some _⟩ :: _) _ _ _; first | (refine rg_gq rfl (h := ?_))) | (guard_target =~ rg _ _ _ (⟨_, .binOp _ _ _ _ _, _, _, _, some _⟩ :: _) _ _ _; first | (refine rg_gq rfl (h := ?_))) | (guard_target =~ rg _ _ _ [] _ _ _; first | (refine rg_end ?_)) | (refine rg_a rfl (h := ?_)) | (refine rg_v rfl (h := ?_))) | (guard_target =~ (_ ∨ _) ∧ _; first | ((refine end_d [] (by rw [Try.results100, Lf.res2]) (ale_2 ?_ ?_) ?_) <;> (try (first | exact ale_eq (by with_reducible rfl) | exact ale_full | exact ale_sl (fun _ => rfl) | exact ale_sl (by simp) | exact ale_junk | exact ale_eq rfl | exact stq (by with_reducible rfl) | exact stq (by rfl) | exact stq (by simp (disch := omega) only [go_sem, seval, ↓reduceIte, hU]))))) | (refine hK _ _ ?_; clear hK K))
theorem with_set (n : Int) (h0 : 0 ≤ n) (h1 : n < 2147483648) : AEq Try.prog 100 [i64 n, bl true] [] (.tu [i64 (n + 2147483648), i64 0]) [] := by
  obtain ⟨_, _, e3⟩ := low_lo n h0 h1
  refine acall_body Try.func100 rfl Try.ntmps100 (by simp) (fun hsc => ?_); simp only [Lf.enter, Nat.reduceAdd]; clear hsc
  have hU := @e3
  repeat' (first | (guard_target =~ PWp _ _ _ _ _ _ _; first | (refine pwp_seq_k (fun K hK => ?_)) | (refine pwp_block ?_) | (refine pwp_rg_then ?_) | (refine pwp_ret ?_) | ((refine pwp_cond_d (fun hcd => ?_) (fun hcd => ?_)) <;> (try simp only [hcP] at hcd) <;> (try (exfalso; first | omega | exact absurd hcd (by assumption) | exact absurd (by assumption) hcd)))) | (guard_target =~ rg _ _ _ _ _ _ _; first | (guard_target =~ rg _ _ _ (⟨_, .move _, _, _, _, some _⟩ :: _) _ _ _; first | (refine rg_gq rfl (h := ?_))) | (guard_target =~ rg _ _ _ (⟨_, .binOp _ _ _ _ _, _, _, _, some _⟩ :: _) _ _ _; first | (refine rg_gq rfl (h := ?_))) | (guard_target =~ rg _ _ _ [] _ _ _; first | (refine rg_end ?_)) | (refine rg_a rfl (h := ?_)) | (refine rg_v rfl (h := ?_))) | (guard_target =~ (_ ∨ _) ∧ _; first | ((refine end_d [] (by rw [Try.results100, Lf.res2]) (ale_2 ?_ ?_) ?_) <;> (try (first | exact ale_eq (by with_reducible rfl) | exact ale_full | exact ale_sl (fun _ => rfl) | exact ale_sl (by simp) | exact ale_junk | exact ale_eq rfl | exact stq (by with_reducible rfl) | exact stq (by rfl) | exact stq (by simp (disch := omega) only [go_sem, seval, ↓reduceIte, hU]))))) | (refine hK _ _ ?_; clear hK K))
theorem with_not (n : Int) (h0 : 0 ≤ n) (h1 : n < 2147483648) : AEq Try.prog 100 [i64 n, bl false] [] (.tu [i64 n, i64 0]) [] := by
  refine acall_body Try.func100 rfl Try.ntmps100 (by simp) (fun hsc => ?_); simp only [Lf.enter, Nat.reduceAdd]; clear hsc
  have hU := True.intro
  repeat' (first | (guard_target =~ PWp _ _ _ _ _ _ _; first | (refine pwp_seq_k (fun K hK => ?_)) | (refine pwp_block ?_) | (refine pwp_rg_then ?_) | (refine pwp_ret ?_) | (refine pwp_skip ?_) | ((refine pwp_cond_d (fun hcd => ?_) (fun hcd => ?_)) <;> (try simp only [hcP] at hcd) <;> (try (exfalso; first | omega | exact absurd hcd (by assumption) | exact absurd (by assumption) hcd)))) | (guard_target =~ rg _ _ _ _ _ _ _; first | (guard_target =~ rg _ _ _ (⟨_, .move _, _, _, _, some _⟩ :: _) _ _ _; first | (refine rg_gq rfl (h := ?_))) | (guard_target =~ rg _ _ _ (⟨_, .binOp _ _ _ _ _, _, _, _, some _⟩ :: _) _ _ _; first | (refine rg_gq rfl (h := ?_))) | (guard_target =~ rg _ _ _ [] _ _ _; first | (refine rg_end ?_)) | (refine rg_a rfl (h := ?_)) | (refine rg_v rfl (h := ?_))) | (guard_target =~ (_ ∨ _) ∧ _; first | ((refine end_d [] (by rw [Try.results100, Lf.res2]) (ale_2 ?_ ?_) ?_) <;> (try (first | exact ale_eq (by with_reducible rfl) | exact ale_full | exact ale_sl (fun _ => rfl) | exact ale_sl (by simp) | exact ale_junk | exact ale_eq rfl | exact stq (by with_reducible rfl) | exact stq (by rfl) | exact stq (by simp (disch := omega) only [go_sem, seval, ↓reduceIte, hU]))))) | (refine hK _ _ ?_; clear hK K))
theorem osame_is (f g q r : Bool) (a b : List UInt8) : AEq Try.prog 52 [.sl f q (a.map byteA), .sl g r (b.map byteA)] [] (bl (decide (a = b))) [] := by
  refine acall_body Try.func52 rfl Try.ntmps52 (by simp) (fun hsc => ?_); simp only [Lf.enter, Nat.reduceAdd]; clear hsc
  have hU := @str_eq
  repeat' (first | (guard_target =~ PWp _ _ _ _ _ _ _; first | (refine pwp_seq_k (fun K hK => ?_)) | (refine pwp_rg_then ?_) | (refine pwp_ret ?_)) | (guard_target =~ rg _ _ _ _ _ _ _; first | (guard_target =~ rg _ _ _ [] _ _ _; first | (refine rg_end ?_)) | (refine rg_a rfl (h := ?_)) | (refine rg_v rfl (h := ?_)) | (refine rg_s rfl ?_)) | (guard_target =~ SOp _ _ _ _ _ _; first | (guard_target =~ SOp _ _ ⟨_, .convert _ _ _, _, _, _, none⟩ _ _ _; first | (refine n_string rfl (hK := ?_)))) | (guard_target =~ (_ ∨ _) ∧ _; first | ((refine end_d [] (by rw [Try.results52, Lf.res1]) (ale_1 ?_) ?_) <;> (try (first | exact ale_eq (by with_reducible rfl) | exact ale_full | exact ale_sl (fun _ => rfl) | exact ale_sl (by simp) | exact ale_junk | exact ale_eq rfl | exact stq (by with_reducible rfl) | exact stq (by rfl) | exact stq (by simp (disch := omega) only [go_sem, seval, ↓reduceIte, hU]))))) | (refine hK _ _ ?_; clear hK K))
end Go.Proofs.Ytpkangodlfhjgaa
