import Derived.Test.YtdalcgfnlbofdaaZ01
import Derived.Test.YtdalcgfnlbofdaaLb
set_option linter.unusedVariables false
set_option linter.unusedSimpArgs false
namespace Go.Proofs.Ytdalcgfnlbofdaa
open Go Go.Lf Go.Proofs
attribute [local irreducible] Lf.rg Lf.ro Lf.PWp Lf.SOp Lf.ACall Lf.Scoped Lf.dg
set_option maxRecDepth 20000
set_option maxHeartbeats 4000000
/-! Numbers and bytes: there and back. -/
theorem powB_succ (k : Nat) : powB (k + 1) = 256 * powB k := rfl
theorem numB_cons (x : UInt8) (l : List UInt8) : numB (x :: l) = (x.toNat : Int) * powB l.length + numB l := by
 have key : ∀ (l : List UInt8) (n : Int), l.foldl (fun n x => n * 256 + (x.toNat : Int)) n = n * powB l.length + numB l := by
  intro l
  induction l with
  | nil => intro n; simp [numB, powB]
  | cons y l ih =>
   intro n
   have h1 := ih (n * 256 + (y.toNat : Int))
   have h2 := ih (0 * 256 + (y.toNat : Int))
   simp only [List.foldl_cons, List.length_cons, numB] at h1 h2 ⊢
   rw [h1, h2, powB_succ, Int.add_mul, Int.mul_assoc n 256, Int.zero_mul, Int.zero_add, Int.add_assoc]
 have := key l (0 * 256 + (x.toNat : Int))
 simpa [numB] using this
theorem powB_pos (k : Nat) : 0 < powB k := by
 induction k with
 | zero => decide
 | succ k ih => rw [powB_succ]; omega
theorem numB_bd' (l : List UInt8) : 0 ≤ numB l ∧ numB l < powB l.length := by
 induction l with
 | nil => decide
 | cons x l ih =>
  rw [numB_cons, List.length_cons, powB_succ]
  have hx : (x.toNat : Int) ≤ 255 := by have := x.toNat_lt; omega
  have hp := powB_pos l.length
  have h1 : (x.toNat : Int) * powB l.length ≤ 255 * powB l.length := Int.mul_le_mul_of_nonneg_right hx (by omega)
  have h2 : 0 ≤ (x.toNat : Int) * powB l.length := Int.mul_nonneg (by omega) (by omega)
  omega
theorem beB_numB : ∀ l : List UInt8, beB (numB l) l.length = l
 | [] => rfl
 | x :: l => by
  have hb := numB_bd' l
  have hp := powB_pos l.length
  have hx := x.toNat_lt
  show byteAt (numB (x :: l)) l.length :: beB (numB (x :: l)) l.length = x :: l
  have e1 : byteAt (numB (x :: l)) l.length = x := by
   apply UInt8.toNat_inj.1
   have h1 := byteAt_nat (numB (x :: l)) l.length
   have hq : numB (x :: l) / powB l.length % 256 = (x.toNat : Int) := by
    rw [numB_cons, Int.add_comm, Int.mul_comm, Int.add_mul_ediv_left _ _ (by omega), Int.ediv_eq_zero_of_lt hb.1 hb.2, Int.zero_add, Int.emod_eq_of_lt (by omega) (by omega)]
   omega
  have e2 : ∀ k, k ≤ l.length → beB (numB (x :: l)) k = beB (numB l) k := by
   intro k
   induction k with
   | zero => intro _; rfl
   | succ k ih =>
    intro hk
    show byteAt _ k :: _ = byteAt _ k :: _
    rw [ih (by omega)]
    congr 1
    apply UInt8.toNat_inj.1
    have h1 := byteAt_nat (numB (x :: l)) k
    have h2 := byteAt_nat (numB l) k
    have hk' : ∃ c, powB l.length = powB k * (256 * c) := by
     have : ∀ d, ∃ c, powB (k + 1 + d) = powB k * (256 * c) := by
      intro d
      induction d with
      | zero => exact ⟨1, by show 256 * powB k = _; rw [Int.mul_one, Int.mul_comm]⟩
      | succ d ihd =>
       obtain ⟨c, hc⟩ := ihd
       exact ⟨256 * c, by rw [show k + 1 + (d + 1) = (k + 1 + d) + 1 from rfl, powB_succ, hc, Int.mul_left_comm, Int.mul_left_comm 256 256 c, Int.mul_left_comm]⟩
     have := this (l.length - (k + 1))
     rwa [show k + 1 + (l.length - (k + 1)) = l.length by omega] at this
    obtain ⟨c, hc⟩ := hk'
    have hpk := powB_pos k
    have hq : numB (x :: l) / powB k % 256 = numB l / powB k % 256 := by
     rw [numB_cons, hc, Int.add_comm, Int.mul_left_comm (x.toNat : Int) (powB k), Int.add_mul_ediv_left _ _ (by omega), Int.mul_left_comm (x.toNat : Int) 256 c, Int.add_mul_emod_self_left]
    omega
  rw [e1, e2 _ (Nat.le_refl _), beB_numB l]
theorem back2 (b : List UInt8) (size : Int) (h : getE b size = 0) : 1 ≤ size ∧ size ≤ 4 ∧ size ≤ b.length ∧ putE (getN b size) size = 0 ∧ putL [] (getN b size) size = b.take size.toNat := by
 cases ho : okS size with
 | false => rw [getE, if_pos ho] at h; omega
 | true =>
  have ho' := ho
  simp only [okS, Bool.and_eq_true, decide_eq_true_eq] at ho'
  rw [getE, if_neg (by rw [ho]; simp)] at h
  have hle : size ≤ b.length := by split at h <;> omega
  have e : getN b size = numB (b.take size.toNat) := if_pos ⟨ho, hle⟩
  have hlen : (b.take size.toNat).length = size.toNat := by rw [List.length_take]; omega
  have hbd := numB_bd' (b.take size.toNat)
  have hbb := beB_numB (b.take size.toNat)
  rw [hlen] at hbd hbb
  have htl := topN_lt size ho'.1 ho'.2
  rw [e]
  have hp : putE (numB (b.take size.toNat)) size = 0 := by
   rw [putE, if_neg (by rw [ho]; simp), if_neg (by omega)]
  exact ⟨ho'.1, ho'.2, hle, hp, by simp [putL, hp, hbb]⟩
theorem loop_is (l : List UInt8) : ∀ (k i : Nat) (r : List UInt8), i + k = l.length → ByteArray.toList.loop ⟨l.toArray⟩ i r = r.reverse ++ l.drop i := by
 intro k
 induction k with
 | zero =>
  intro i r h
  unfold ByteArray.toList.loop
  have hs : (ByteArray.mk l.toArray).size = l.length := rfl
  rw [if_neg (by rw [hs]; omega), List.drop_of_length_le (by omega), List.append_nil]
 | succ k ih =>
  intro i r h
  unfold ByteArray.toList.loop
  have hs : (ByteArray.mk l.toArray).size = l.length := rfl
  rw [if_pos (by rw [hs]; omega), ih (i + 1) _ (by omega)]
  have hg : (ByteArray.mk l.toArray).get! i = l[i]'(by omega) := by
   show (l.toArray)[i]! = _
   simp [show i < l.length by omega]
  rw [hg, List.reverse_cons, List.append_assoc]
  congr 1
  rw [List.drop_eq_getElem_cons (i := i) (by omega)]
  rfl
theorem toList_mk (l : List UInt8) : ByteArray.toList ⟨l.toArray⟩ = l := by
 unfold ByteArray.toList
 rw [loop_is l l.length 0 [] (by omega)]
 simp
theorem str_eq (a b : List UInt8) : (ByteArray.toList ⟨a.toArray⟩ == ByteArray.toList ⟨b.toArray⟩) = decide (a = b) := by
 rw [toList_mk, toList_mk]
 by_cases h : a = b <;> simp [h]
theorem bv_low (z : BitVec 64) (hz : z.toNat < 2147483648) : z &&& ~~~(2147483648#64) = z ∧ (2147483648#64 ||| z) &&& ~~~(2147483648#64) = z ∧ z &&& 2147483648#64 = 0#64 ∧ (2147483648#64 ||| z) &&& 2147483648#64 = 2147483648#64 := by
 have hy : (2147483648#64) = BitVec.twoPow 64 31 := by decide
 have hb : z.getLsbD 31 = false := by
  show z.toNat.testBit 31 = false
  exact Nat.testBit_lt_two_pow hz
 have hb' : z[31] = false := by simpa using hb
 rw [hy]
 refine ⟨?_, ?_, ?_, ?_⟩ <;> apply BitVec.eq_of_getLsbD_eq <;> intro i hi <;> simp only [BitVec.getLsbD_and, BitVec.getLsbD_or, BitVec.getLsbD_not, BitVec.getLsbD_twoPow, BitVec.getLsbD_zero, hi, decide_true, Bool.true_and] <;> by_cases h : 31 = i <;> first | (subst h; simp [hb']; done) | (simp [h]; done)
theorem or_toNat (m : Nat) (h : m < 2147483648) : (2147483648#64 ||| BitVec.ofNat 64 m) = BitVec.ofNat 64 (2147483648 + m) := by
 apply BitVec.eq_of_toNat_eq
 rw [BitVec.toNat_or, BitVec.toNat_ofNat, BitVec.toNat_ofNat, BitVec.toNat_ofNat, Nat.mod_eq_of_lt (by omega), Nat.mod_eq_of_lt (by omega), Nat.mod_eq_of_lt (by omega)]
 have := Nat.two_pow_add_eq_or_of_lt (i := 31) (b := m) (by omega) 1
 exact this.symm
theorem ofInt_nat (n : Nat) : BitVec.ofInt 64 (n : Int) = BitVec.ofNat 64 n := rfl
theorem low_lo (n : Int) (h0 : 0 ≤ n) (h1 : n < 2147483648) : iandn .i64 n 2147483648 = n ∧ iand .i64 n 2147483648 = 0 ∧ ior .i64 n 2147483648 = n + 2147483648 := by
 obtain ⟨m, rfl⟩ := Int.eq_ofNat_of_zero_le h0
 have hm : m < 2147483648 := by omega
 have hz : (BitVec.ofNat 64 m).toNat < 2147483648 := by rw [BitVec.toNat_ofNat, Nat.mod_eq_of_lt (by omega)]; exact hm
 obtain ⟨b1, b2, b3, b4⟩ := bv_low _ hz
 refine ⟨?_, ?_, ?_⟩
 ·show IntKind.i64.wrap ((BitVec.ofInt 64 (m : Int) &&& ~~~(BitVec.ofInt 64 2147483648)).toNat : Int) = _
  rw [ofInt_nat, show BitVec.ofInt 64 2147483648 = 2147483648#64 from rfl, b1, BitVec.toNat_ofNat, Nat.mod_eq_of_lt (by omega)]
  exact w64 (by omega)
 ·show IntKind.i64.wrap ((BitVec.ofInt 64 (m : Int) &&& (BitVec.ofInt 64 2147483648)).toNat : Int) = _
  rw [ofInt_nat, show BitVec.ofInt 64 2147483648 = 2147483648#64 from rfl, b3]
  rfl
 ·show IntKind.i64.wrap ((BitVec.ofInt 64 (m : Int) ||| (BitVec.ofInt 64 2147483648)).toNat : Int) = _
  rw [ofInt_nat, show BitVec.ofInt 64 2147483648 = 2147483648#64 from rfl, BitVec.or_comm, or_toNat m hm, BitVec.toNat_ofNat, Nat.mod_eq_of_lt (by omega)]
  rw [w64 (by omega)]
  omega
theorem low_hi (n : Int) (h0 : 2147483648 ≤ n) (h1 : n < 4294967296) : iandn .i64 n 2147483648 = n - 2147483648 ∧ iand .i64 n 2147483648 = 2147483648 := by
 obtain ⟨m, rfl⟩ : ∃ m : Nat, n = ((2147483648 + m : Nat) : Int) := ⟨(n - 2147483648).toNat, by omega⟩
 have hm : m < 2147483648 := by omega
 have hz : (BitVec.ofNat 64 m).toNat < 2147483648 := by rw [BitVec.toNat_ofNat, Nat.mod_eq_of_lt (by omega)]; exact hm
 obtain ⟨b1, b2, b3, b4⟩ := bv_low _ hz
 refine ⟨?_, ?_⟩
 ·show IntKind.i64.wrap ((BitVec.ofInt 64 ((2147483648 + m : Nat) : Int) &&& ~~~(BitVec.ofInt 64 2147483648)).toNat : Int) = _
  rw [ofInt_nat, show BitVec.ofInt 64 2147483648 = 2147483648#64 from rfl, ← or_toNat m hm, b2, BitVec.toNat_ofNat, Nat.mod_eq_of_lt (by omega)]
  rw [w64 (by omega)]
  omega
 ·show IntKind.i64.wrap ((BitVec.ofInt 64 ((2147483648 + m : Nat) : Int) &&& (BitVec.ofInt 64 2147483648)).toNat : Int) = _
  rw [ofInt_nat, show BitVec.ofInt 64 2147483648 = 2147483648#64 from rfl, ← or_toNat m hm, b4]
  rfl
theorem low_is_lo (n : Int) (h0 : 0 ≤ n) (h1 : n < 2147483648) : AEq Try.prog 59 [i64 n] [] (.tu [i64 n, bl false]) [] := by
 obtain ⟨e1, e2, _⟩ := low_lo n h0 h1
 refine acall_body Try.func59 rfl Try.ntmps59 (by simp) (fun hsc => ?_); simp only [Lf.enter, Nat.reduceAdd]; clear hsc
 have hU := And.intro @e1 (@e2)
 repeat' (first | (guard_target =~ PWp _ _ _ _ _ _ _; first | (refine pwp_seq_k (fun K hK => ?_)) | (refine pwp_rg_then ?_) | (refine pwp_ret ?_) | (refine pwp_skip ?_) | ((refine pwp_cond_d (fun hcd => ?_) (fun hcd => ?_)) <;> (try simp only [hcP] at hcd) <;> (try exact cdT))) | (guard_target =~ rg _ _ _ _ _ _ _; first | (guard_target =~ rg _ _ _ (⟨_, .move _, _, _, _, some _⟩ :: _) _ _ _; first | (refine rg_gq rfl (h := ?_))) | (guard_target =~ rg _ _ _ (⟨_, .binOp _ _ _ _ _, _, _, _, some _⟩ :: _) _ _ _; first | (refine rg_gq rfl (h := ?_))) | (guard_target =~ rg _ _ _ [] _ _ _; first | (refine rg_end ?_)) | (refine rg_a rfl (h := ?_)) | (refine rg_v rfl (h := ?_))) | (guard_target =~ (_ ∨ _) ∧ _; first | ((refine end_d [] (by rw [Try.results59, Lf.res2]) (ale_2 ?_ ?_) ?_) <;> (try (first | exact aleT | exact stq (by with_reducible rfl) | exact stq (by rfl) | exact stq (by simp (disch := omega) only [go_sem, seval, ↓reduceIte, hU]))))) | (refine hK _ _ ?_; clear hK K))
theorem low_is_hi (n : Int) (h0 : 2147483648 ≤ n) (h1 : n < 4294967296) : AEq Try.prog 59 [i64 n] [] (.tu [i64 (n - 2147483648), bl true]) [] := by
 obtain ⟨e1, e2⟩ := low_hi n h0 h1
 refine acall_body Try.func59 rfl Try.ntmps59 (by simp) (fun hsc => ?_); simp only [Lf.enter, Nat.reduceAdd]; clear hsc
 have hU := And.intro @e1 (@e2)
 repeat' (first | (guard_target =~ PWp _ _ _ _ _ _ _; first | (refine pwp_seq_k (fun K hK => ?_)) | (refine pwp_rg_then ?_) | (refine pwp_ret ?_) | (refine pwp_skip ?_) | ((refine pwp_cond_d (fun hcd => ?_) (fun hcd => ?_)) <;> (try simp only [hcP] at hcd) <;> (try exact cdT))) | (guard_target =~ rg _ _ _ _ _ _ _; first | (guard_target =~ rg _ _ _ (⟨_, .move _, _, _, _, some _⟩ :: _) _ _ _; first | (refine rg_gq rfl (h := ?_))) | (guard_target =~ rg _ _ _ (⟨_, .binOp _ _ _ _ _, _, _, _, some _⟩ :: _) _ _ _; first | (refine rg_gq rfl (h := ?_))) | (guard_target =~ rg _ _ _ [] _ _ _; first | (refine rg_end ?_)) | (refine rg_a rfl (h := ?_)) | (refine rg_v rfl (h := ?_))) | (guard_target =~ (_ ∨ _) ∧ _; first | ((refine end_d [] (by rw [Try.results59, Lf.res2]) (ale_2 ?_ ?_) ?_) <;> (try (first | exact aleT | exact stq (by with_reducible rfl) | exact stq (by rfl) | exact stq (by simp (disch := omega) only [go_sem, seval, ↓reduceIte, hU]))))) | (refine hK _ _ ?_; clear hK K))
theorem rlow_lo (n : Int) (h0 : 0 ≤ n) (h1 : n < 2147483648) : AEq Try.prog 42 [i64 n] [] (.tu [i64 n, bl false]) [] := by
 refine acall_body Try.func42 rfl Try.ntmps42 (by simp) (fun hsc => ?_); simp only [Lf.enter, Nat.reduceAdd]; clear hsc
 have hU := True.intro
 repeat' (first | (guard_target =~ PWp _ _ _ _ _ _ _; first | (refine pwp_seq_k (fun K hK => ?_)) | (refine pwp_rg_then ?_) | (refine pwp_ret ?_) | (refine pwp_skip ?_) | ((refine pwp_cond_d (fun hcd => ?_) (fun hcd => ?_)) <;> (try simp only [hcP] at hcd) <;> (try exact cdT))) | (guard_target =~ rg _ _ _ _ _ _ _; first | (guard_target =~ rg _ _ _ (⟨_, .move _, _, _, _, some _⟩ :: _) _ _ _; first | (refine rg_gq rfl (h := ?_))) | (guard_target =~ rg _ _ _ (⟨_, .binOp _ _ _ _ _, _, _, _, some _⟩ :: _) _ _ _; first | (refine rg_gq rfl (h := ?_))) | (guard_target =~ rg _ _ _ [] _ _ _; first | (refine rg_end ?_)) | (refine rg_a rfl (h := ?_)) | (refine rg_v rfl (h := ?_))) | (guard_target =~ (_ ∨ _) ∧ _; first | ((refine end_d [] (by rw [Try.results42, Lf.res2]) (ale_2 ?_ ?_) ?_) <;> (try (first | exact aleT | exact stq (by with_reducible rfl) | exact stq (by rfl) | exact stq (by simp (disch := omega) only [go_sem, seval, ↓reduceIte, hU]))))) | (refine hK _ _ ?_; clear hK K))
theorem rlow_hi (n : Int) (h0 : 2147483648 ≤ n) (h1 : n < 4294967296) : AEq Try.prog 42 [i64 n] [] (.tu [i64 (n - 2147483648), bl true]) [] := by
 refine acall_body Try.func42 rfl Try.ntmps42 (by simp) (fun hsc => ?_); simp only [Lf.enter, Nat.reduceAdd]; clear hsc
 have hU := True.intro
 repeat' (first | (guard_target =~ PWp _ _ _ _ _ _ _; first | (refine pwp_seq_k (fun K hK => ?_)) | (refine pwp_rg_then ?_) | (refine pwp_ret ?_) | (refine pwp_skip ?_) | ((refine pwp_cond_d (fun hcd => ?_) (fun hcd => ?_)) <;> (try simp only [hcP] at hcd) <;> (try exact cdT))) | (guard_target =~ rg _ _ _ _ _ _ _; first | (guard_target =~ rg _ _ _ (⟨_, .move _, _, _, _, some _⟩ :: _) _ _ _; first | (refine rg_gq rfl (h := ?_))) | (guard_target =~ rg _ _ _ (⟨_, .binOp _ _ _ _ _, _, _, _, some _⟩ :: _) _ _ _; first | (refine rg_gq rfl (h := ?_))) | (guard_target =~ rg _ _ _ [] _ _ _; first | (refine rg_end ?_)) | (refine rg_a rfl (h := ?_)) | (refine rg_v rfl (h := ?_))) | (guard_target =~ (_ ∨ _) ∧ _; first | ((refine end_d [] (by rw [Try.results42, Lf.res2]) (ale_2 ?_ ?_) ?_) <;> (try (first | exact aleT | exact stq (by with_reducible rfl) | exact stq (by rfl) | exact stq (by simp (disch := omega) only [go_sem, seval, ↓reduceIte, hU]))))) | (refine hK _ _ ?_; clear hK K))
theorem osame_is (f g q r : Bool) (a b : List UInt8) : AEq Try.prog 22 [.sl f q (a.map byteA), .sl g r (b.map byteA)] [] (bl (decide (a = b))) [] := by
 refine acall_body Try.func22 rfl Try.ntmps22 (by simp) (fun hsc => ?_); simp only [Lf.enter, Nat.reduceAdd]; clear hsc
 have hU := @str_eq
 repeat' (first | (guard_target =~ PWp _ _ _ _ _ _ _; first | (refine pwp_seq_k (fun K hK => ?_)) | (refine pwp_rg_then ?_) | (refine pwp_ret ?_)) | (guard_target =~ rg _ _ _ _ _ _ _; first | (guard_target =~ rg _ _ _ [] _ _ _; first | (refine rg_end ?_)) | (refine rg_a rfl (h := ?_)) | (refine rg_v rfl (h := ?_)) | (refine rg_s rfl ?_)) | (guard_target =~ SOp _ _ _ _ _ _; first | (guard_target =~ SOp _ _ ⟨_, .convert _ _ _, _, _, _, none⟩ _ _ _; first | (refine n_string rfl (hK := ?_)))) | (guard_target =~ (_ ∨ _) ∧ _; first | ((refine end_d [] (by rw [Try.results22, Lf.res1]) (ale_1 ?_) ?_) <;> (try (first | exact aleT | exact stq (by with_reducible rfl) | exact stq (by rfl) | exact stq (by simp (disch := omega) only [go_sem, seval, ↓reduceIte, hU]))))) | (refine hK _ _ ?_; clear hK K))
end Go.Proofs.Ytdalcgfnlbofdaa

set_option linter.unusedVariables false
set_option linter.unusedSimpArgs false
namespace Go.Proofs.Ytdalcgfnlbofdaa
open Go Go.Lf Go.Proofs
attribute [local irreducible] Lf.rg Lf.ro Lf.PWp Lf.SOp Lf.ACall Lf.Scoped Lf.dg
set_option maxRecDepth 20000
set_option maxHeartbeats 4000000
theorem cur_new (f q : Bool) (l : List UInt8) (h : l.length ≤ 100000000000000) : AEq Try.prog 45 [.sl f q (l.map byteA)] [] (.ptr 0 0) [.box [.sl false false (l.map byteA), i64 0]] := by
 refine acall_body Try.func45 rfl Try.ntmps45 (by simp) (fun hsc => ?_); simp only [Lf.enter, Nat.reduceAdd]; clear hsc
 have hU := True.intro
 repeat' (first | (guard_target =~ PWp _ _ _ _ _ _ _; first | (refine pwp_seq_k (fun K hK => ?_)) | (refine pwp_rg_then ?_) | (refine pwp_ret ?_)) | (guard_target =~ rg _ _ _ _ _ _ _; first | (guard_target =~ rg _ _ _ [] _ _ _; first | (refine rg_end ?_)) | (refine rg_a rfl (h := ?_)) | (refine rg_v rfl (h := ?_)) | (refine rg_s rfl ?_)) | (guard_target =~ SOp _ _ _ _ _ _; first | (guard_target =~ SOp _ _ ⟨_, .box _ _, _, _, _, none⟩ _ _ _; first | (refine n_box rfl (hK := ?_))) | (guard_target =~ SOp _ _ ⟨_, .call ⟨.value (.func 52), _, _⟩, _, _, _, none⟩ _ _ _; first | (refine n_call (f := 52) rfl Try.call52 (h := AEq.pure' (hc := clone_b _ _ _ (by assumption)) (hq := ?_)))) | (guard_target =~ SOp _ _ ⟨_, .build _ _, _, _, _, none⟩ _ _ _; first | (refine n_build rfl (by first | exact bd90 | fail) (hK := ?_)))) | (guard_target =~ (_ ∨ _) ∧ _; first | ((refine end_d [0] (by rw [Try.results45, Lf.res1]) (ale_1 ?_) ?_) <;> (try (first | exact aleT | exact stq (by with_reducible rfl) | exact stq (by rfl) | exact stq (by simp (disch := omega) only [go_sem, seval, ↓reduceIte, hU]))))) | (refine hK _ _ ?_; clear hK K))
theorem cur_rest (f : Bool) (b : List UInt8) (a : Int) (h0 : 0 ≤ a) (h1 : a ≤ b.length) : AEq Try.prog 56 [.ptr 0 0] [.box [.sl f false (b.map byteA), i64 a]] (.sl false false ((b.drop a.toNat).map byteA)) [.box [.sl f false (b.map byteA), i64 a]] := by
 refine acall_body Try.func56 rfl Try.ntmps56 (by simp) (fun hsc => ?_); simp only [Lf.enter, Nat.reduceAdd]; clear hsc
 have hU := True.intro
 repeat' (first | (guard_target =~ PWp _ _ _ _ _ _ _; first | (refine pwp_seq_k (fun K hK => ?_)) | (refine pwp_rg_then ?_) | (refine pwp_draw mixed (by kernel_rfl) ?_) | (refine pwp_ret ?_) | (refine pwp_skip ?_) | ((refine pwp_cond_d (fun hcd => ?_) (fun hcd => ?_)) <;> (try simp only [hcP] at hcd) <;> (try exact cdT))) | (guard_target =~ rg _ _ _ _ _ _ _; first | (guard_target =~ rg _ _ _ [] _ _ _; first | (refine rg_end ?_)) | (refine rg_a rfl (h := ?_)) | (refine rg_v rfl (h := ?_))) | (guard_target =~ dg _ _ _ _ _ _ _; first | (guard_target =~ dg _ _ _ (⟨_, .move _, _, _, _, none⟩ :: _) _ _ _; first | (refine dg_v rfl (hk := ?_))) | (guard_target =~ dg _ _ _ (⟨_, .assign _, _, _, _, none⟩ :: _) _ _ _; first | (refine dg_a rfl (hk := ?_))) | (guard_target =~ dg _ _ _ (⟨_, .load _ _, _, _, _, none⟩ :: _) _ _ _; first | (refine dg_v rfl (hk := ?_))) | (guard_target =~ dg _ _ _ (⟨_, .nilCheck _, _, _, _, none⟩ :: _) _ _ _; first | (refine dg_v rfl (hk := ?_))) | (guard_target =~ dg _ _ _ (⟨_, .fieldAddr _ _ _, _, _, _, none⟩ :: _) _ _ _; first | (refine dg_v rfl (hk := ?_))) | (guard_target =~ dg _ _ _ (⟨_, .binOp _ _ _ _ _, _, _, _, none⟩ :: _) _ _ _; first | (refine dg_v rfl (hk := ?_))) | (guard_target =~ dg _ _ _ (⟨_, .slice _ _ _ _ _, _, _, _, none⟩ :: _) _ _ _; first | (refine dg_c (x := _) (h := ro_s (h := n_slice rfl (hg := (fun _ => (by simp only [go_sem, seval, ↓reduceIte, hU] <;> rfl))) (hK := ro_end ⟨rfl, rfl⟩))) (hk := ?_))) | (guard_target =~ dg _ _ _ [] _ _ _; first | (refine dg_nil ?_))) | (guard_target =~ (_ ∨ _) ∧ _; first | ((refine end_d [0] (by rw [Try.results56, Lf.res1]) (ale_1 ?_) ?_) <;> (try (first | exact aleT | exact stq (by with_reducible rfl) | exact stq (by rfl) | exact stq (by simp (disch := omega) only [go_sem, seval, ↓reduceIte, hU]))))) | (refine hK _ _ ?_; clear hK K))
theorem cur_left (f : Bool) (b : List UInt8) (a : Int) (h0 : 0 ≤ a) (h1 : a ≤ b.length) : AEq Try.prog 48 [.ptr 0 0] [.box [.sl f false (b.map byteA), i64 a]] (i64 (b.length - a)) [.box [.sl f false (b.map byteA), i64 a]] := by
 refine acall_body Try.func48 rfl Try.ntmps48 (by simp) (fun hsc => ?_); simp only [Lf.enter, Nat.reduceAdd]; clear hsc
 have hU := True.intro
 repeat' (first | (guard_target =~ PWp _ _ _ _ _ _ _; first | (refine pwp_seq_k (fun K hK => ?_)) | (refine pwp_rg_then ?_) | (refine pwp_ret ?_)) | (guard_target =~ rg _ _ _ _ _ _ _; first | (guard_target =~ rg _ _ _ [] _ _ _; first | (refine rg_end ?_)) | (refine rg_a rfl (h := ?_)) | (refine rg_v rfl (h := ?_)) | (refine rg_s rfl ?_)) | (guard_target =~ SOp _ _ _ _ _ _; first | (guard_target =~ SOp _ _ ⟨_, .call ⟨.value (.func 56), _, _⟩, _, _, _, none⟩ _ _ _; first | (refine n_call (f := 56) rfl Try.call56 (h := AEq.sub' [_] (by first | ((repeat' (first | exact trivial | (first | exact arg_lit | exact arg_sl id id | exact arg_nil | exact arg_sl (by simp) id | exact arg_sl (by simp) (fun _ => rfl) | exact arg_row_m (by rfl) (by rfl) (fun _ => rfl) | exact arg_vw_m (by rfl) (by rfl) (fun _ => rfl) | exact arg_rn (by rfl) (by rfl) | exact arg_junk) | refine ⟨?_, ?_⟩)); done) | fail) (hc := cur_rest _ _ _ (by assumption) (by assumption)) (hq := ?_))))) | (guard_target =~ (_ ∨ _) ∧ _; first | ((refine end_d [0] (by rw [Try.results48, Lf.res1]) (ale_1 ?_) ?_) <;> (try (first | exact aleT | exact stq (by with_reducible rfl) | exact stq (by rfl) | exact stq (by simp (disch := omega) only [go_sem, seval, ↓reduceIte, hU]))))) | (refine hK _ _ ?_; clear hK K))
 all_goals exact ale_eq (by rw [List.length_drop]; congr 2; omega)
theorem cur_pass (f : Bool) (b : List UInt8) (a n : Int) (h0 : 0 ≤ a) (h1 : a ≤ 4000000000000000000) (h2 : 0 ≤ n) (h3 : n ≤ 4000000000000000000) : AEq Try.prog 57 [.ptr 0 0, i64 n] [.box [.sl f false (b.map byteA), i64 a]] (.tu []) [.box [.sl f false (b.map byteA), i64 (a + n)]] := by
 refine acall_body Try.func57 rfl Try.ntmps57 (by simp) (fun hsc => ?_); simp only [Lf.enter, Nat.reduceAdd]; clear hsc
 have hU := True.intro
 repeat' (first | (guard_target =~ PWp _ _ _ _ _ _ _; first | (refine pwp_seq_k (fun K hK => ?_)) | (refine pwp_rg_then ?_) | (refine pwp_rg ?_) | ((refine pwp_cond_d (fun hcd => ?_) (fun hcd => ?_)) <;> (try simp only [hcP] at hcd) <;> (try exact cdT))) | (guard_target =~ rg _ _ _ _ _ _ _; first | (guard_target =~ rg _ _ _ [] _ _ _; first | (refine rg_end ?_)) | (refine rg_v rfl (h := ?_)) | (refine rg_n rfl ?_)) | (guard_target =~ SOp _ _ _ _ _ _; first | (guard_target =~ SOp _ _ ⟨_, .store _ _ _, _, _, _, none⟩ _ _ _; first | (refine n_store rfl (hK := ?_)))) | (guard_target =~ (_ ∨ _) ∧ _; first | ((refine end_d [0] (by rw [Try.results57, Lf.res0]) ale_0 ?_) <;> (try (first | exact aleT | exact stq (by with_reducible rfl) | exact stq (by rfl) | exact stq (by simp (disch := omega) only [go_sem, seval, ↓reduceIte, hU]))))) | (refine hK _ _ ?_; clear hK K))
end Go.Proofs.Ytdalcgfnlbofdaa

set_option linter.unusedVariables false
set_option linter.unusedSimpArgs false
namespace Go.Proofs.Ytdalcgfnlbofdaa
open Go Go.Lf Go.Proofs
attribute [local irreducible] Lf.rg Lf.ro Lf.PWp Lf.SOp Lf.ACall Lf.Scoped Lf.dg
set_option maxRecDepth 20000
set_option maxHeartbeats 4000000
def curN (b : List UInt8) (a n : Int) : Int := if getE (b.drop a.toNat) n = 0 then a + n else a
def byE (b : List UInt8) (a n : Int) : Int := if n < 0 then 1 else if (b.length : Int) - a < n then 3 else 0
def byL (b : List UInt8) (a n : Int) : List UInt8 := if byE b a n = 0 then (b.drop a.toNat).take n.toNat else []
def curB (b : List UInt8) (a n : Int) : Int := if byE b a n = 0 then a + n else a
theorem getE_zero {b : List UInt8} {n : Int} (h : getE b n = 0) : 1 ≤ n ∧ n ≤ 4 ∧ n ≤ b.length := ⟨(back2 b n h).1, (back2 b n h).2.1, (back2 b n h).2.2.1⟩
theorem cur_num (f : Bool) (b : List UInt8) (a n : Int) (h0 : 0 ≤ a) (h1 : a ≤ b.length) (h2 : b.length ≤ 4000000000000000) : AEq Try.prog 53 [.ptr 0 0, i64 n] [.box [.sl f false (b.map byteA), i64 a]] (.tu [i64 (getN (b.drop a.toNat) n), i64 (getE (b.drop a.toNat) n)]) [.box [.sl f false (b.map byteA), i64 (curN b a n)]] := by
 have hz := @getE_zero (b.drop a.toNat) n
 have hl : (b.drop a.toNat).length ≤ b.length := by simp
 refine acall_body Try.func53 rfl Try.ntmps53 (by simp) (fun hsc => ?_); simp only [Lf.enter, Nat.reduceAdd]; clear hsc
 have hU := True.intro
 repeat' (first | (guard_target =~ PWp _ _ _ _ _ _ _; first | (refine pwp_seq_k (fun K hK => ?_)) | (refine pwp_rg_then ?_) | (refine pwp_ret ?_) | (refine pwp_skip ?_) | ((refine pwp_cond_d (fun hcd => ?_) (fun hcd => ?_)) <;> (try simp only [hcP] at hcd) <;> (try exact cdT))) | (guard_target =~ rg _ _ _ _ _ _ _; first | (guard_target =~ rg _ _ _ [] _ _ _; first | (refine rg_end ?_)) | (refine rg_a rfl (h := ?_)) | (refine rg_x rfl (hy := rfl) (h := ?_)) | (refine rg_v rfl (h := ?_)) | (refine rg_s rfl ?_)) | (guard_target =~ SOp _ _ _ _ _ _; first | (guard_target =~ SOp _ _ ⟨_, .call ⟨.value (.func 58), _, _⟩, _, _, _, none⟩ _ _ _; first | (refine n_call (f := 58) rfl Try.call58 (h := AEq.pure' (hc := get_is _ _ _ _ aoT) (hq := ?_)))) | (guard_target =~ SOp _ _ ⟨_, .call ⟨.value (.func 57), _, _⟩, _, _, _, none⟩ _ _ _; first | (refine n_call (f := 57) rfl Try.call57 (h := AEq.sub' [_] (by first | ((repeat' (first | exact trivial | (first | exact arg_lit | exact arg_sl id id | exact arg_nil | exact arg_sl (by simp) id | exact arg_sl (by simp) (fun _ => rfl) | exact arg_row_m (by rfl) (by rfl) (fun _ => rfl) | exact arg_vw_m (by rfl) (by rfl) (fun _ => rfl) | exact arg_rn (by rfl) (by rfl) | exact arg_junk) | refine ⟨?_, ?_⟩)); done) | fail) (hc := cur_pass _ _ _ _ aoT aoT aoT aoT) (hq := ?_)))) | (guard_target =~ SOp _ _ ⟨_, .call ⟨.value (.func 56), _, _⟩, _, _, _, none⟩ _ _ _; first | (refine n_call (f := 56) rfl Try.call56 (h := AEq.sub' [_] (by first | ((repeat' (first | exact trivial | (first | exact arg_lit | exact arg_sl id id | exact arg_nil | exact arg_sl (by simp) id | exact arg_sl (by simp) (fun _ => rfl) | exact arg_row_m (by rfl) (by rfl) (fun _ => rfl) | exact arg_vw_m (by rfl) (by rfl) (fun _ => rfl) | exact arg_rn (by rfl) (by rfl) | exact arg_junk) | refine ⟨?_, ?_⟩)); done) | fail) (hc := cur_rest _ _ _ aoT aoT) (hq := ?_))))) | (guard_target =~ (_ ∨ _) ∧ _; first | ((refine end_d [0] (by rw [Try.results53, Lf.res2]) (ale_2 ?_ ?_) ?_) <;> (try (first | exact aleT | exact stq (by with_reducible rfl) | exact stq (by rfl) | exact stq (by simp (disch := omega) only [go_sem, seval, ↓reduceIte, hU]))))) | (refine hK _ _ ?_; clear hK K))
 ·exact stq (by simp [curN, hcd])
 ·exact stq (by simp [curN, hcd])
theorem cur_by (f : Bool) (b : List UInt8) (a n : Int) (h0 : 0 ≤ a) (h1 : a ≤ b.length) (h2 : b.length ≤ 4000000000000) : AEq Try.prog 50 [.ptr 0 0, i64 n] [.box [.sl f false (b.map byteA), i64 a]] (.tu [.sl false false ((byL b a n).map byteA), i64 (byE b a n)]) [.box [.sl f false (b.map byteA), i64 (curB b a n)]] := by
 have hl : (b.drop a.toNat).length = b.length - a.toNat := by simp
 refine acall_body Try.func50 rfl Try.ntmps50 (by simp) (fun hsc => ?_); simp only [Lf.enter, Nat.reduceAdd]; clear hsc
 have hU := True.intro
 repeat' (first | (guard_target =~ PWp _ _ _ _ _ _ _; first | (refine pwp_seq_k (fun K hK => ?_)) | (refine pwp_block ?_) | (refine pwp_rg_then ?_) | (refine pwp_ret ?_) | (refine pwp_skip ?_) | ((refine pwp_cond_d (fun hcd => ?_) (fun hcd => ?_)) <;> (try simp only [hcP] at hcd) <;> (try exact cdT))) | (guard_target =~ rg _ _ _ _ _ _ _; first | (guard_target =~ rg _ _ _ [] _ _ _; first | (refine rg_end ?_)) | (refine rg_a rfl (h := ?_)) | (refine rg_v rfl (h := ?_)) | (refine rg_s rfl ?_)) | (guard_target =~ SOp _ _ _ _ _ _; first | (guard_target =~ SOp _ _ ⟨_, .call ⟨.value (.func 52), _, _⟩, _, _, _, none⟩ _ _ _; first | (refine n_call (f := 52) rfl Try.call52 (h := AEq.pure' (hc := clone_b _ _ _ (by first | assumption | omega | (simp only [List.length_map, List.length_append, List.length_take, List.length_drop, List.length_cons, List.length_nil]; omega))) (hq := ?_)))) | (guard_target =~ SOp _ _ ⟨_, .call ⟨.value (.func 48), _, _⟩, _, _, _, none⟩ _ _ _; first | (refine n_call (f := 48) rfl Try.call48 (h := AEq.sub' [_] (by first | ((repeat' (first | exact trivial | (first | exact arg_lit | exact arg_sl id id | exact arg_nil | exact arg_sl (by simp) id | exact arg_sl (by simp) (fun _ => rfl) | exact arg_row_m (by rfl) (by rfl) (fun _ => rfl) | exact arg_vw_m (by rfl) (by rfl) (fun _ => rfl) | exact arg_rn (by rfl) (by rfl) | exact arg_junk) | refine ⟨?_, ?_⟩)); done) | fail) (hc := cur_left _ _ _ (by first | assumption | omega | (simp only [List.length_map, List.length_append, List.length_take, List.length_drop, List.length_cons, List.length_nil]; omega)) (by first | assumption | omega | (simp only [List.length_map, List.length_append, List.length_take, List.length_drop, List.length_cons, List.length_nil]; omega))) (hq := ?_)))) | (guard_target =~ SOp _ _ ⟨_, .call ⟨.value (.func 57), _, _⟩, _, _, _, none⟩ _ _ _; first | (refine n_call (f := 57) rfl Try.call57 (h := AEq.sub' [_] (by first | ((repeat' (first | exact trivial | (first | exact arg_lit | exact arg_sl id id | exact arg_nil | exact arg_sl (by simp) id | exact arg_sl (by simp) (fun _ => rfl) | exact arg_row_m (by rfl) (by rfl) (fun _ => rfl) | exact arg_vw_m (by rfl) (by rfl) (fun _ => rfl) | exact arg_rn (by rfl) (by rfl) | exact arg_junk) | refine ⟨?_, ?_⟩)); done) | fail) (hc := cur_pass _ _ _ _ (by first | assumption | omega | (simp only [List.length_map, List.length_append, List.length_take, List.length_drop, List.length_cons, List.length_nil]; omega)) (by first | assumption | omega | (simp only [List.length_map, List.length_append, List.length_take, List.length_drop, List.length_cons, List.length_nil]; omega)) (by first | assumption | omega | (simp only [List.length_map, List.length_append, List.length_take, List.length_drop, List.length_cons, List.length_nil]; omega)) (by first | assumption | omega | (simp only [List.length_map, List.length_append, List.length_take, List.length_drop, List.length_cons, List.length_nil]; omega))) (hq := ?_)))) | (guard_target =~ SOp _ _ ⟨_, .call ⟨.value (.func 56), _, _⟩, _, _, _, none⟩ _ _ _; first | (refine n_call (f := 56) rfl Try.call56 (h := AEq.sub' [_] (by first | ((repeat' (first | exact trivial | (first | exact arg_lit | exact arg_sl id id | exact arg_nil | exact arg_sl (by simp) id | exact arg_sl (by simp) (fun _ => rfl) | exact arg_row_m (by rfl) (by rfl) (fun _ => rfl) | exact arg_vw_m (by rfl) (by rfl) (fun _ => rfl) | exact arg_rn (by rfl) (by rfl) | exact arg_junk) | refine ⟨?_, ?_⟩)); done) | fail) (hc := cur_rest _ _ _ (by first | assumption | omega | (simp only [List.length_map, List.length_append, List.length_take, List.length_drop, List.length_cons, List.length_nil]; omega)) (by first | assumption | omega | (simp only [List.length_map, List.length_append, List.length_take, List.length_drop, List.length_cons, List.length_nil]; omega))) (hq := ?_)))) | (guard_target =~ SOp _ _ ⟨_, .slice _ _ _ _ _, _, _, _, none⟩ _ _ _; first | (refine n_slice rfl (hg := (fun _ => (by simp only [go_sem, seval, ↓reduceIte, hU] <;> rfl))) (hK := ?_)))) | (guard_target =~ (_ ∨ _) ∧ _; first | ((refine end_d [0] (by rw [Try.results50, Lf.res2]) (ale_2 ?_ ?_) ?_) <;> (try (first | exact aleT | exact stq (by with_reducible rfl) | exact stq (by rfl) | exact stq (by simp (disch := omega) only [go_sem, seval, ↓reduceIte, hU]))))) | (refine hK _ _ ?_; clear hK K))
 ·have hb : byE b a n = 1 := if_pos hcd
  rw [show byL b a n = [] by simp [byL, hb]]; exact ale_sl (by simp)
 ·have hb : byE b a n = 1 := if_pos hcd
  exact ale_eq (by rw [hb])
 ·have hb : byE b a n = 1 := if_pos hcd
  exact stq (by simp [curB, hb])
 ·have hb : byE b a n = 3 := by simp only [byE]; rw [if_neg (by omega), if_pos (by omega)]
  rw [show byL b a n = [] by simp [byL, hb]]; exact ale_sl (by simp)
 ·have hb : byE b a n = 3 := by simp only [byE]; rw [if_neg (by omega), if_pos (by omega)]
  exact ale_eq (by rw [hb])
 ·have hb : byE b a n = 3 := by simp only [byE]; rw [if_neg (by omega), if_pos (by omega)]
  exact stq (by simp [curB, hb])
 ·have hb : byE b a n = 0 := by simp only [byE]; rw [if_neg (by omega), if_neg (by omega)]
  exact ale_eq (by simp [byL, hb])
 ·have hb : byE b a n = 0 := by simp only [byE]; rw [if_neg (by omega), if_neg (by omega)]
  exact ale_eq (by rw [hb])
 ·have hb : byE b a n = 0 := by simp only [byE]; rw [if_neg (by omega), if_neg (by omega)]
  exact stq (by simp [curB, hb])
end Go.Proofs.Ytdalcgfnlbofdaa

set_option linter.unusedVariables false
set_option linter.unusedSimpArgs false
namespace Go.Proofs.Ytdalcgfnlbofdaa
open Go Go.Lf Go.Proofs
attribute [local irreducible] Lf.rg Lf.ro Lf.PWp Lf.SOp Lf.ACall Lf.Scoped Lf.dg
set_option maxRecDepth 20000
set_option maxHeartbeats 4000000
@[go_sem] def setA (s : Int × Int) : List AV := [i64 s.1, i64 s.2]
@[go_sem] theorem purl_setA (l : List (Int × Int)) : purl (l.map setA).flatten = true := purl_map (fun _ => rfl) l
structure Vals where
 (a b c d e f : Int)
deriving DecidableEq
@[go_sem] def valsA (v : Vals) : List AV := [i64 v.a, i64 v.b, i64 v.c, i64 v.d, i64 v.e, i64 v.f]
end Go.Proofs.Ytdalcgfnlbofdaa

set_option linter.unusedVariables false
set_option linter.unusedSimpArgs false
namespace Go.Proofs.Ytdalcgfnlbofdaa
open Go Go.Lf Go.Proofs
attribute [local irreducible] Lf.rg Lf.ro Lf.PWp Lf.SOp Lf.ACall Lf.Scoped Lf.dg
set_option maxRecDepth 20000
set_option maxHeartbeats 4000000
end Go.Proofs.Ytdalcgfnlbofdaa

set_option linter.unusedVariables false
set_option linter.unusedSimpArgs false
namespace Go.Proofs.Ytdalcgfnlbofdaa
open Go Go.Lf Go.Proofs
attribute [local irreducible] Lf.rg Lf.ro Lf.PWp Lf.SOp Lf.ACall Lf.Scoped Lf.dg
set_option maxRecDepth 20000
set_option maxHeartbeats 4000000
@[go_sem] theorem fz_mapset {κ : List Nat} {σ : Sto} (l : List (Int × Int)) : List.map (fzl κ σ) (l.map setA) = l.map setA := fz_mapg (fun _ => rfl) l
def decS (b : List UInt8) : Int × Int := (getN b 2, getN (b.drop 2) 4)
def parS (b : List UInt8) : Nat → List (Int × Int)
 | 0 => []
 | k + 1 => parS b k ++ [decS (b.drop (6 * k))]
def parE (b : List UInt8) : Int := if b.length % 6 = 0 then 0 else 4
def parL (b : List UInt8) : List (Int × Int) := if b.length % 6 = 0 then parS b (b.length / 6) else []
theorem parS_len (b : List UInt8) (k : Nat) : (parS b k).length = k := by induction k with | zero => rfl | succ k ih => simp [parS, ih]
theorem set_parse (f q : Bool) (b : List UInt8) (hb : b.length ≤ 100000000000) : AEq Try.prog 49 [.sl f q (b.map byteA)] [] (.tu [.sl false false ((parL b).map setA), i64 (parE b)]) [] := by
 by_cases h6 : b.length % 6 = 0
 ·have h1 : parE b = 0 := if_pos h6
  have h2 : parL b = parS b (b.length / 6) := if_pos h6
  rw [h1, h2]
  refine acall_body Try.func49 rfl Try.ntmps49 (by simp) (fun hsc => ?_); simp only [Lf.enter, Nat.reduceAdd]; clear hsc
  have hU := True.intro
  repeat' (first | (guard_target =~ PWp _ _ _ _ _ _ _; first | (refine pwp_seq_k (fun K hK => ?_)) | (refine pwp_block ?_) | (refine pwp_rg_then ?_) | (refine pwp_skip ?_) | ((refine pwp_cond_d (fun hcd => ?_) (fun hcd => ?_)) <;> (try simp only [hcP] at hcd) <;> (try exact cdT))) | (guard_target =~ rg _ _ _ _ _ _ _; first | (guard_target =~ rg _ _ _ [] _ _ _; first | (refine rg_end ?_)) | (refine rg_a rfl (h := ?_)) | (refine rg_v rfl (h := ?_)) | (refine rg_s rfl ?_)) | (guard_target =~ SOp _ _ _ _ _ _; first | (guard_target =~ SOp _ _ ⟨_, .call ⟨.value (.func 45), _, _⟩, _, _, _, none⟩ _ _ _; first | (refine n_call (f := 45) rfl Try.call45 (h := AEq.sub' [] (by first | ((repeat' (first | exact trivial | (first | exact arg_lit | exact arg_sl id id | exact arg_nil | exact arg_sl (by simp) id | exact arg_sl (by simp) (fun _ => rfl) | exact arg_row_m (by rfl) (by rfl) (fun _ => rfl) | exact arg_vw_m (by rfl) (by rfl) (fun _ => rfl) | exact arg_rn (by rfl) (by rfl) | exact arg_junk) | refine ⟨?_, ?_⟩)); done) | fail) (hc := cur_new _ _ _ (by omega)) (hq := ?_))))) | (refine hK _ _ ?_; clear hK K))
  refine pwp_row 5 75 2 (by decide) (by rfl) rfl rfl ?_
  refine pwp_loop_e [5, 6, 7, 8, 9, 16, 17, 18, 19, 20, 21, 22, 23, 24, 25, 26, 27, 28, 29, 30, 31, 32, 33, 34] (fun s : Nat × Nat => [(5, .row 1 s.2)]) (fun s => [.box [.sl false false (b.map byteA), i64 (6 * s.1)], .row s.2 75 2 ((parS b s.1).map setA)]) (fun s => s.1 ≤ b.length / 6) (fun s => b.length / 6 - s.1) (0, 0) (Nat.zero_le _) ?_ rfl ?_
  ·(refine ⟨⟨_, sT, ?_⟩, trivial⟩ <;> (try (first | exact aleT)))
  ·rintro ⟨k, s⟩ hk
   simp only [mask, List.map_cons, List.map_nil, List.cons_append, List.nil_append]
   dsimp only at hk ⊢
   have hpl := parS_len b k
   by_cases hlt : k < b.length / 6
   ·have e1 : (6 * (k : Int)).toNat = 6 * k := by omega
    have e2 : (6 * (k : Int) + 2).toNat = 6 * k + 2 := by omega
    have hE1 : getE (b.drop (6 * (k : Int)).toNat) 2 = 0 := by
     unfold getE
     rw [if_neg (by rw [okS_yes (by omega)]; simp), if_neg (by rw [e1, List.length_drop]; omega)]
    have hE2 : getE (b.drop (6 * (k : Int) + 2).toNat) 4 = 0 := by
     unfold getE
     rw [if_neg (by rw [okS_yes (by omega)]; simp), if_neg (by rw [e2, List.length_drop]; omega)]
    have hc1 : curN b (6 * (k : Int)) 2 = 6 * (k : Int) + 2 := by unfold curN; rw [if_pos hE1]
    have hc2 : curN b (6 * (k : Int) + 2) 4 = 6 * ((k + 1 : Nat) : Int) := by unfold curN; rw [if_pos hE2]; omega
    have hd : decS (b.drop (6 * k)) = (getN (b.drop (6 * (k : Int)).toNat) 2, getN (b.drop (6 * (k : Int) + 2).toNat) 4) := by
     unfold decS; rw [e1, e2, List.drop_drop]
    have hU := And.intro @hc1 (@hc2)
    repeat' (first | (guard_target =~ PWp _ _ _ _ _ _ _; first | (refine pwp_seq_k (fun K hK => ?_)) | (refine pwp_block ?_) | (refine pwp_rg_then ?_) | (refine pwp_rg ?_) | (refine pwp_skip ?_) | ((refine pwp_cond_d (fun hcd => ?_) (fun hcd => ?_)) <;> (try simp only [hcP] at hcd) <;> (try exact cdT))) | (guard_target =~ rg _ _ _ _ _ _ _; first | (guard_target =~ rg _ _ _ [] _ _ _; first | (refine rg_end ?_)) | (refine rg_a rfl (h := ?_)) | (refine rg_x rfl (hy := rfl) (h := ?_)) | (refine rg_v rfl (h := ?_)) | (refine rg_s rfl ?_)) | (guard_target =~ SOp _ _ _ _ _ _; first | (guard_target =~ SOp _ _ ⟨_, .call ⟨.value (.func 53), _, _⟩, _, _, _, none⟩ _ _ _; first | (refine n_call (f := 53) rfl Try.call53 (h := AEq.sub' [_] (by first | ((repeat' (first | exact trivial | (first | exact arg_lit | exact arg_sl id id | exact arg_nil | exact arg_sl (by simp) id | exact arg_sl (by simp) (fun _ => rfl) | exact arg_row_m (by rfl) (by rfl) (fun _ => rfl) | exact arg_vw_m (by rfl) (by rfl) (fun _ => rfl) | exact arg_rn (by rfl) (by rfl) | exact arg_junk) | refine ⟨?_, ?_⟩)); done) | fail) (hc := cur_num _ _ _ _ (by omega) (by omega) (by omega)) (hq := ?_)))) | (guard_target =~ SOp _ _ ⟨_, .call ⟨.value (.func 48), _, _⟩, _, _, _, none⟩ _ _ _; first | (refine n_call (f := 48) rfl Try.call48 (h := AEq.sub' [_] (by first | ((repeat' (first | exact trivial | (first | exact arg_lit | exact arg_sl id id | exact arg_nil | exact arg_sl (by simp) id | exact arg_sl (by simp) (fun _ => rfl) | exact arg_row_m (by rfl) (by rfl) (fun _ => rfl) | exact arg_vw_m (by rfl) (by rfl) (fun _ => rfl) | exact arg_rn (by rfl) (by rfl) | exact arg_junk) | refine ⟨?_, ?_⟩)); done) | fail) (hc := cur_left _ _ _ (by omega) (by omega)) (hq := ?_)))) | (guard_target =~ SOp _ _ ⟨_, .call ⟨.builtin .append, _, _⟩, _, _, _, none⟩ _ _ _; first | (refine n_append_row rfl (he := by first | exact eo3 | exact eo4 | exact eo5 | exact eo28 | exact eo40 | exact eo50 | exact eo75 | exact eo77 | exact eo90 | fail) (hK := ?_))) | (guard_target =~ SOp _ _ ⟨_, .buildSlice _ _ _, _, _, _, none⟩ _ _ _; first | (refine n_lit rfl (he := by first | exact eo3 | exact eo4 | exact eo5 | exact eo28 | exact eo40 | exact eo50 | exact eo75 | exact eo77 | exact eo90 | fail) (hK := ?_))) | (guard_target =~ SOp _ _ ⟨_, .build _ _, _, _, _, none⟩ _ _ _; first | (refine n_build rfl (by first | exact bd75 | exact bd90 | fail) (hK := ?_)))) | (refine hK _ _ ?_; clear hK K) | (dsimp only [Lf.thenQ, Lf.blockQ]))
    refine ⟨(k + 1, s + 1), by dsimp only; omega, by dsimp only; omega, ?_, (by repeat' (first | exact agr_refl | refine agr_cons (by rfl) ?_)), by first | (dsimp only; simp only [parS, hd, List.map_append, List.map_cons, List.map_nil, setA]; done) | fail⟩
    (refine ⟨⟨_, sT, ?_⟩, trivial⟩ <;> (try (first | exact aleT)))
   ·have he : k = b.length / 6 := by omega
    subst he
    repeat' (first | (guard_target =~ PWp _ _ _ _ _ _ _; first | (refine pwp_seq_k (fun K hK => ?_)) | (refine pwp_rg_then ?_) | (refine pwp_ret ?_) | (refine pwp_exit ?_) | ((refine pwp_cond_d (fun hcd => ?_) (fun hcd => ?_)) <;> (try simp only [hcP] at hcd) <;> (try exact cdT))) | (guard_target =~ rg _ _ _ _ _ _ _; first | (guard_target =~ rg _ _ _ [] _ _ _; first | (refine rg_end ?_)) | (refine rg_a rfl (h := ?_)) | (refine rg_v rfl (h := ?_)) | (refine rg_s rfl ?_)) | (guard_target =~ SOp _ _ _ _ _ _; first | (guard_target =~ SOp _ _ ⟨_, .call ⟨.value (.func 48), _, _⟩, _, _, _, none⟩ _ _ _; first | (refine n_call (f := 48) rfl Try.call48 (h := AEq.sub' [_] (by first | ((repeat' (first | exact trivial | (first | exact arg_lit | exact arg_sl id id | exact arg_nil | exact arg_sl (by simp) id | exact arg_sl (by simp) (fun _ => rfl) | exact arg_row_m (by rfl) (by rfl) (fun _ => rfl) | exact arg_vw_m (by rfl) (by rfl) (fun _ => rfl) | exact arg_rn (by rfl) (by rfl) | exact arg_junk) | refine ⟨?_, ?_⟩)); done) | fail) (hc := cur_left _ _ _ (by omega) (by omega)) (hq := ?_))))) | (guard_target =~ (_ ∨ _) ∧ _; first | ((refine end_d [] (by rw [Try.results49, Lf.res2]) (ale_2 ?_ ?_) ?_) <;> (try (first | exact aleT | exact stq (by with_reducible rfl) | exact stq (by rfl) | exact stq (by simp (disch := omega) only [go_sem, seval, ↓reduceIte, hU]))))) | (refine hK _ _ ?_; clear hK K) | (apply_assumption (exfalso := false) (symm := false)))
 ·have h1 : parE b = 4 := if_neg h6
  have h2 : parL b = [] := if_neg h6
  rw [h1, h2]
  refine acall_body Try.func49 rfl Try.ntmps49 (by simp) (fun hsc => ?_); simp only [Lf.enter, Nat.reduceAdd]; clear hsc
  have hU := True.intro
  repeat' (first | (guard_target =~ PWp _ _ _ _ _ _ _; first | (refine pwp_seq_k (fun K hK => ?_)) | (refine pwp_rg_then ?_) | (refine pwp_ret ?_) | ((refine pwp_cond_d (fun hcd => ?_) (fun hcd => ?_)) <;> (try simp only [hcP] at hcd) <;> (try exact cdT))) | (guard_target =~ rg _ _ _ _ _ _ _; first | (guard_target =~ rg _ _ _ [] _ _ _; first | (refine rg_end ?_)) | (refine rg_a rfl (h := ?_)) | (refine rg_v rfl (h := ?_))) | (guard_target =~ (_ ∨ _) ∧ _; first | ((refine end_d [] (by rw [Try.results49, Lf.res2]) (ale_2 ?_ ?_) ?_) <;> (try (first | exact aleT | exact stq (by with_reducible rfl) | exact stq (by rfl) | exact stq (by simp (disch := omega) only [go_sem, seval, ↓reduceIte, hU]))))) | (refine hK _ _ ?_; clear hK K))
theorem rset_parse (f : Bool) (b : List UInt8) (hb : b.length ≤ 100000000000) : AEq Try.prog 28 [.sl f false (b.map byteA)] [] (.tu [.sl false false ((parL b).map setA), bl (decide (parE b = 0))]) [] := by
 have h1 : b.length % 6 = 0 → parE b = 0 := fun h => if_pos h
 have h2 : b.length % 6 = 0 → parL b = parS b (b.length / 6) := fun h => if_pos h
 have h3 : ¬ b.length % 6 = 0 → parE b = 4 := fun h => if_neg h
 have h4 : ¬ b.length % 6 = 0 → parL b = [] := fun h => if_neg h
 refine acall_body Try.func28 rfl Try.ntmps28 (by simp) (fun hsc => ?_); simp only [Lf.enter, Nat.reduceAdd]; clear hsc
 have hU := True.intro
 repeat' (first | (guard_target =~ PWp _ _ _ _ _ _ _; first | (refine pwp_seq_k (fun K hK => ?_)) | (refine pwp_block ?_) | (refine pwp_rg_then ?_)) | (guard_target =~ rg _ _ _ _ _ _ _; first | (guard_target =~ rg _ _ _ [] _ _ _; first | (refine rg_end ?_)) | (refine rg_a rfl (h := ?_))) | (refine hK _ _ ?_; clear hK K))
 refine pwp_row 4 75 2 (by decide) (by rfl) rfl rfl ?_
 refine pwp_loop_e [0, 4, 5, 6, 7, 8, 9, 10, 11, 12, 13, 14, 15, 16, 17, 18, 19, 20, 21, 22, 23, 24, 25, 26, 27, 28, 29, 30] (fun s : Nat × Nat => [(4, .row 0 s.2), (0, .sl false false ((b.drop (6 * s.1)).map byteA))]) (fun s => [.row s.2 75 2 ((parS b s.1).map setA)]) (fun s => s.1 ≤ b.length / 6) (fun s => b.length / 6 - s.1) (0, 0) (Nat.zero_le _) ?_ rfl ?_
 ·(refine ⟨⟨_, sT, ?_⟩, ⟨_, sT, ?_⟩, trivial⟩ <;> (try (first | exact aleT)))
 ·rintro ⟨k, s⟩ hk
  simp only [mask, List.map_cons, List.map_nil, List.cons_append, List.nil_append]
  dsimp only at hk ⊢
  have hpl := parS_len b k
  have hdl : (b.drop (6 * k)).length = b.length - 6 * k := List.length_drop
  by_cases hlt : k < b.length / 6
  ·have hd : decS (b.drop (6 * k)) = (getN (b.drop (6 * k)) 2, getN ((b.drop (6 * k)).drop 2) 4) := rfl
   have hdd : (b.drop (6 * k)).drop 6 = b.drop (6 * (k + 1)) := by rw [List.drop_drop]; congr 1
   have hd2 : ((b.drop (6 * k)).drop 2).length = b.length - 6 * k - 2 := by rw [List.length_drop, hdl]
   repeat' (first | (guard_target =~ PWp _ _ _ _ _ _ _; first | (refine pwp_seq_k (fun K hK => ?_)) | (refine pwp_block ?_) | (refine pwp_rg_then ?_) | (refine pwp_rg ?_) | (refine pwp_skip ?_) | ((refine pwp_cond_d (fun hcd => ?_) (fun hcd => ?_)) <;> (try simp only [hcP] at hcd) <;> (try exact cdT))) | (guard_target =~ rg _ _ _ _ _ _ _; first | (guard_target =~ rg _ _ _ [] _ _ _; first | (refine rg_end ?_)) | (refine rg_a rfl (h := ?_)) | (refine rg_x rfl (hy := rfl) (h := ?_)) | (refine rg_v rfl (h := ?_)) | (refine rg_s rfl ?_)) | (guard_target =~ SOp _ _ _ _ _ _; first | (guard_target =~ SOp _ _ ⟨_, .slice _ _ _ _ _, _, _, _, none⟩ _ _ _; first | (refine n_slice rfl (hg := (fun _ => (by simp only [go_sem, seval, ↓reduceIte, hU] <;> rfl))) (hK := ?_))) | (guard_target =~ SOp _ _ ⟨_, .call ⟨.value (.func 41), _, _⟩, _, _, _, none⟩ _ _ _; first | (refine n_call (f := 41) rfl Try.call41 (h := AEq.pure' (hc := rget_is _ _ _ _ (by omega)) (hq := ?_)))) | (guard_target =~ SOp _ _ ⟨_, .call ⟨.builtin .append, _, _⟩, _, _, _, none⟩ _ _ _; first | (refine n_append_row rfl (he := by first | exact eo3 | exact eo4 | exact eo5 | exact eo28 | exact eo40 | exact eo50 | exact eo75 | fail) (hK := ?_))) | (guard_target =~ SOp _ _ ⟨_, .buildSlice _ _ _, _, _, _, none⟩ _ _ _; first | (refine n_lit rfl (he := by first | exact eo3 | exact eo4 | exact eo5 | exact eo28 | exact eo40 | exact eo50 | exact eo75 | fail) (hK := ?_))) | (guard_target =~ SOp _ _ ⟨_, .build _ _, _, _, _, none⟩ _ _ _; first | (refine n_build rfl (by first | exact bd75 | fail) (hK := ?_)))) | (refine hK _ _ ?_; clear hK K) | (dsimp only [Lf.thenQ, Lf.blockQ]))
   refine ⟨(k + 1, s + 1), by dsimp only; omega, by dsimp only; omega, ?_, (by repeat' (first | exact agr_refl | refine agr_cons (by rfl) ?_)), by first | (dsimp only; simp only [parS, hd, List.map_append, List.map_cons, List.map_nil, setA]; done) | fail⟩
   (refine ⟨⟨_, sT, ?_⟩, ⟨_, sT, ?_⟩, trivial⟩ <;> (try (first | exact aleT)))
   all_goals exact ale_slm hdd id
  ·have he : k = b.length / 6 := by omega
   subst he
   repeat' (first | (guard_target =~ PWp _ _ _ _ _ _ _; first | (refine pwp_seq_k (fun K hK => ?_)) | (refine pwp_rg_then ?_) | (refine pwp_ret ?_) | (refine pwp_skip ?_) | (refine pwp_exit ?_) | ((refine pwp_cond_d (fun hcd => ?_) (fun hcd => ?_)) <;> (try simp only [hcP] at hcd) <;> (try exact cdT))) | (guard_target =~ rg _ _ _ _ _ _ _; first | (guard_target =~ rg _ _ _ [] _ _ _; first | (refine rg_end ?_)) | (refine rg_a rfl (h := ?_)) | (refine rg_v rfl (h := ?_))) | (guard_target =~ (_ ∨ _) ∧ _; first | ((refine end_d [] (by rw [Try.results28, Lf.res2]) (ale_2 ?_ ?_) ?_) <;> (try (first | exact aleT | exact stq (by with_reducible rfl) | exact stq (by rfl) | exact stq (by simp (disch := omega) only [go_sem, seval, ↓reduceIte, hU]))))) | (refine hK _ _ ?_; clear hK K) | (apply_assumption (exfalso := false) (symm := false)))
   ·rw [h4 (by omega)]; exact ale_full
   ·exact ale_bl (by rw [h3 (by omega)]; rfl)
   ·rw [h2 (by omega)]; exact ale_full
   ·exact ale_bl (by rw [h1 (by omega)]; rfl)
def okSet (s : Int × Int) : Prop := putE s.1 2 = 0 ∧ putE s.2 4 = 0
instance (s : Int × Int) : Decidable (okSet s) := by unfold okSet; infer_instance
end Go.Proofs.Ytdalcgfnlbofdaa

set_option linter.unusedVariables false
set_option linter.unusedSimpArgs false
namespace Go.Proofs.Ytdalcgfnlbofdaa
open Go Go.Lf Go.Proofs
attribute [local irreducible] Lf.rg Lf.ro Lf.PWp Lf.SOp Lf.ACall Lf.Scoped Lf.dg
set_option maxRecDepth 20000
set_option maxHeartbeats 4000000
structure Hd where
 (l t g s : Int) (r : Bool)
@[go_sem] def hdA (h : Hd) : List AV := [i64 h.l, i64 h.t, i64 h.g, i64 h.s, bl h.r]
def hdOk (h : Hd) : Prop := 0 ≤ h.l ∧ h.l ≤ 16777215 ∧ 0 ≤ h.t ∧ h.t ≤ 255 ∧ 0 ≤ h.g ∧ h.g ≤ 255 ∧ 0 ≤ h.s ∧ h.s ≤ 2147483647
instance (h : Hd) : Decidable (hdOk h) := by unfold hdOk; infer_instance
theorem within_is (n m : Int) : AEq Try.prog 43 [i64 n, i64 m] [] (bl (decide (0 ≤ n) && decide (n ≤ m))) [] := by
 refine acall_body Try.func43 rfl Try.ntmps43 (by simp) (fun hsc => ?_); simp only [Lf.enter, Nat.reduceAdd]; clear hsc
 have hU := True.intro
 repeat' (first | (guard_target =~ PWp _ _ _ _ _ _ _; first | (refine pwp_seq_k (fun K hK => ?_)) | (refine pwp_rg_then ?_) | (refine pwp_ret ?_)) | (guard_target =~ rg _ _ _ _ _ _ _; first | (guard_target =~ rg _ _ _ (⟨_, .move _, _, _, _, some _⟩ :: _) _ _ _; first | (refine rg_gq rfl (h := ?_))) | (guard_target =~ rg _ _ _ (⟨_, .binOp _ _ _ _ _, _, _, _, some _⟩ :: _) _ _ _; first | (refine rg_gq rfl (h := ?_))) | (guard_target =~ rg _ _ _ [] _ _ _; first | (refine rg_end ?_)) | (refine rg_a rfl (h := ?_)) | (refine rg_v rfl (h := ?_))) | (guard_target =~ (_ ∨ _) ∧ _; first | ((refine end_d [] (by rw [Try.results43, Lf.res1]) (ale_1 ?_) ?_) <;> (try (first | exact aleT | exact stq (by with_reducible rfl) | exact stq (by rfl) | exact stq (by simp (disch := omega) only [go_sem, seval, ↓reduceIte, hU]))))) | (refine hK _ _ ?_; clear hK K))
theorem hright (l t g s : Int) (r : Bool) : AEq Try.prog 30 [.ag [i64 l, i64 t, i64 g, i64 s, bl r]] [] (bl (decide (hdOk ⟨l, t, g, s, r⟩))) [] := by
 refine acall_body Try.func30 rfl Try.ntmps30 (by simp) (fun hsc => ?_); simp only [Lf.enter, Nat.reduceAdd]; clear hsc
 have hU := True.intro
 repeat' (first | (guard_target =~ PWp _ _ _ _ _ _ _; first | (refine pwp_seq_k (fun K hK => ?_)) | (refine pwp_rg_then ?_) | (refine pwp_ret ?_)) | (guard_target =~ rg _ _ _ _ _ _ _; first | (guard_target =~ rg _ _ _ (⟨_, .load _ _, _, _, _, some _⟩ :: _) _ _ _; first | (refine rg_gf rfl (hn := rfl) (h := ?_)) | (refine rg_gq rfl (h := ?_)) | (refine rg_gt rfl (h := ?_)) | ((first | refine rg_case (by simp only [go_sem, seval, ↓reduceIte, hU] <;> rfl) (fun hcd => ?_) (fun hcd => ?_) | refine rg_case2 (by simp only [go_sem, seval, ↓reduceIte, hU] <;> rfl) (fun hcd => ?_) (fun hcd => ?_)) <;> (try simp only [hcd]) <;> (try (simp only [Bool.not_eq_true', Bool.not_eq_false'] at hcd; try simp only [hcd])) <;> (refine rg_w (Γ2 := _) (by repeat' (first | exact envw_nil | apply envw_cons | exact opens_t | exact opens_f | exact opens_r)) ?_) <;> (try simp only [hcP] at hcd) <;> (try exact cdT))) | (guard_target =~ rg _ _ _ (⟨_, .fieldAddr _ _ _, _, _, _, some _⟩ :: _) _ _ _; first | (refine rg_gf rfl (hn := rfl) (h := ?_)) | (refine rg_gq rfl (h := ?_)) | (refine rg_gt rfl (h := ?_)) | ((first | refine rg_case (by simp only [go_sem, seval, ↓reduceIte, hU] <;> rfl) (fun hcd => ?_) (fun hcd => ?_) | refine rg_case2 (by simp only [go_sem, seval, ↓reduceIte, hU] <;> rfl) (fun hcd => ?_) (fun hcd => ?_)) <;> (try simp only [hcd]) <;> (try (simp only [Bool.not_eq_true', Bool.not_eq_false'] at hcd; try simp only [hcd])) <;> (refine rg_w (Γ2 := _) (by repeat' (first | exact envw_nil | apply envw_cons | exact opens_t | exact opens_f | exact opens_r)) ?_) <;> (try simp only [hcP] at hcd) <;> (try exact cdT))) | (guard_target =~ rg _ _ _ (⟨_, .call ⟨.value (.func 43), _, _⟩, _, _, _, some _⟩ :: _) _ _ _; first | (refine rg_gf rfl (hn := rfl) (h := ?_)) | (refine rg_gq rfl (h := ?_)) | (refine rg_gt rfl (h := ?_)) | ((first | refine rg_case (by simp only [go_sem, seval, ↓reduceIte, hU] <;> rfl) (fun hcd => ?_) (fun hcd => ?_) | refine rg_case2 (by simp only [go_sem, seval, ↓reduceIte, hU] <;> rfl) (fun hcd => ?_) (fun hcd => ?_)) <;> (try simp only [hcd]) <;> (try (simp only [Bool.not_eq_true', Bool.not_eq_false'] at hcd; try simp only [hcd])) <;> (refine rg_w (Γ2 := _) (by repeat' (first | exact envw_nil | apply envw_cons | exact opens_t | exact opens_f | exact opens_r)) ?_) <;> (try simp only [hcP] at hcd) <;> (try exact cdT))) | (guard_target =~ rg _ _ _ [] _ _ _; first | (refine rg_end ?_)) | (refine rg_a rfl (h := ?_)) | (refine rg_v rfl (h := ?_)) | (refine rg_s rfl ?_)) | (guard_target =~ SOp _ _ _ _ _ _; first | (guard_target =~ SOp _ _ ⟨_, .call ⟨.value (.func 43), _, _⟩, _, _, _, some _⟩ _ _ _; first | (refine n_call (f := 43) rfl Try.call43 (h := AEq.pure' agT (within_is _ _) (hq := ?_)))) | (guard_target =~ SOp _ _ ⟨_, .call ⟨.value (.func 43), _, _⟩, _, _, _, none⟩ _ _ _; first | (refine n_call (f := 43) rfl Try.call43 (h := AEq.pure' agT (within_is _ _) (hq := ?_)))) | (guard_target =~ SOp _ _ ⟨_, .box _ _, _, _, _, none⟩ _ _ _; first | (refine n_box rfl (hK := ?_)))) | (guard_target =~ (_ ∨ _) ∧ _; first | ((refine end_d [] (by rw [Try.results30, Lf.res1]) (ale_1 ?_) ?_) <;> (try (first | exact aleT | exact stq (by with_reducible rfl) | exact stq (by rfl) | exact stq (by simp (disch := omega) only [go_sem, seval, ↓reduceIte, hU]))))) | (refine hK _ _ ?_; clear hK K))
 all_goals first | exact ale_bl (by symm; rw [decide_eq_true_eq]; unfold hdOk; dsimp only; omega) | exact ale_bl (by symm; rw [decide_eq_false_iff_not]; unfold hdOk; dsimp only; omega) | exact ale_bl (by rw [Bool.eq_iff_iff]; simp only [Bool.and_eq_true, decide_eq_true_eq]; unfold hdOk; dsimp only; omega)
end Go.Proofs.Ytdalcgfnlbofdaa

set_option linter.unusedVariables false
set_option linter.unusedSimpArgs false
namespace Go.Proofs.Ytdalcgfnlbofdaa
open Go Go.Lf Go.Proofs
attribute [local irreducible] Lf.rg Lf.ro Lf.PWp Lf.SOp Lf.ACall Lf.Scoped Lf.dg
set_option maxRecDepth 20000
set_option maxHeartbeats 4000000
theorem getN_bd (b : List UInt8) (n : Int) : 0 ≤ getN b n ∧ getN b n < 4294967296 := by
 unfold getN
 split
 ·rename_i h
  obtain ⟨h1, h2⟩ := h
  have h4 : n ≤ 4 := by simp [okS] at h1; omega
  have := numB_bd' (b.take n.toNat)
  have hp : (powB (b.take n.toNat).length : Int) ≤ 4294967296 := (powB_bd _ (by rw [List.length_take]; omega)).2
  omega
 ·omega
def lowN (m : Int) : Int := if m < 2147483648 then m else m - 2147483648
theorem getN_one (b : List UInt8) (a : Nat) (x : UInt8) (h : b[a]? = some x) : getN (b.drop a) 1 = x.toNat := by
 have hl : a < b.length := (List.getElem?_eq_some_iff.1 h).1
 have e : (b.drop a).take 1 = [x] := by
  have h2 : (b.drop a)[0]? = some x := by rw [List.getElem?_drop, Nat.add_zero]; exact h
  have := take_snoc h2
  simpa using this
 unfold getN
 rw [if_pos ⟨rfl, by rw [List.length_drop]; omega⟩, show (1 : Int).toNat = 1 from rfl, e]
 simp [numB]
theorem hof (w t g s : Int) (r f : Bool) (b : List UInt8) (hl : b.length ≤ 100000000000) : AEq Try.prog 31 [.ag [i64 w, i64 t, i64 g, i64 s, bl r, .sl f false (b.map byteA)]] [] (.ag [i64 b.length, i64 t, i64 g, i64 s, bl r]) [] := by
 refine acall_body Try.func31 rfl Try.ntmps31 (by simp) (fun hsc => ?_); simp only [Lf.enter, Nat.reduceAdd]; clear hsc
 have hU := True.intro
 repeat' (first | (guard_target =~ PWp _ _ _ _ _ _ _; first | (refine pwp_seq_k (fun K hK => ?_)) | (refine pwp_rg_then ?_) | (refine pwp_ret ?_)) | (guard_target =~ rg _ _ _ _ _ _ _; first | (guard_target =~ rg _ _ _ [] _ _ _; first | (refine rg_end ?_)) | (refine rg_v rfl (h := ?_)) | (refine rg_s rfl ?_) | (refine rg_n rfl ?_)) | (guard_target =~ SOp _ _ _ _ _ _; first | (guard_target =~ SOp _ _ ⟨_, .box _ _, _, _, _, none⟩ _ _ _; first | (refine n_box rfl (hK := ?_))) | (guard_target =~ SOp _ _ ⟨_, .build _ _, _, _, _, none⟩ _ _ _; first | (refine n_build rfl (by first | exact bd30 | exact bd66 | fail) (hK := ?_))) | (guard_target =~ SOp _ _ ⟨_, .alloc _, _, _, _, none⟩ _ _ _; first | (refine n_alloc rfl (by first | exact zv3 | exact zv4 | exact zv5 | exact zv28 | exact zv30 | exact zv66 | fail) (hK := ?_))) | (guard_target =~ SOp _ _ ⟨_, .store _ _ _, _, _, _, none⟩ _ _ _; first | (refine n_store rfl (hK := ?_)))) | (guard_target =~ (_ ∨ _) ∧ _; first | ((refine end_q [] (by first | exact .inr rfl | exact .inl rfl | fail) (by rfl) (by rw [Try.results31, Lf.resM1]; (try simp (disch := omega) only [Lf.resOne, go_sem, seval, ↓reduceIte, hU]); rfl) sT sT (ale_1 ?_) ?_) <;> (try (first | exact aleT | exact stq (by with_reducible rfl) | exact stq (by rfl) | exact stq (by simp (disch := omega) only [go_sem, seval, ↓reduceIte, hU]))))) | (refine hK _ _ ?_; clear hK K))
end Go.Proofs.Ytdalcgfnlbofdaa

