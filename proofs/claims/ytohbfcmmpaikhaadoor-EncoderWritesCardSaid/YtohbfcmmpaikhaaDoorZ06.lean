import Derived.Test.YtohbfcmmpaikhaaDoorZ02
import Derived.Test.YtohbfcmmpaikhaaDoorZ03
import Derived.Test.YtohbfcmmpaikhaaDoorLc
import Derived.Test.YtohbfcmmpaikhaaDoorZ05
import Derived.Test.YtohbfcmmpaikhaaDoorTy
set_option linter.unusedVariables false
set_option linter.unusedSimpArgs false
namespace Go.Proofs.YtohbfcmmpaikhaaDoor
open Go Go.Lf Go.Proofs
attribute [local irreducible] Lf.rg Lf.ro Lf.PWp Lf.SOp Lf.ACall Lf.Scoped Lf.dg Lf.dw
set_option maxRecDepth 20000
set_option maxHeartbeats 4000000
/-! bit by bit, of numbers from 0 on -/
theorem iandN (a b : Nat) (ha : a < 2 ^ 62) (hb : b < 2 ^ 62) : iand .i64 (a : Int) (b : Int) = ((a &&& b : Nat) : Int) := by
 show IntKind.i64.wrap ((BitVec.ofInt 64 (a : Int) &&& BitVec.ofInt 64 (b : Int)).toNat : Int) = _
 have e1 : BitVec.ofInt 64 (a : Int) = BitVec.ofNat 64 a := rfl
 have e2 : BitVec.ofInt 64 (b : Int) = BitVec.ofNat 64 b := rfl
 rw [e1, e2, BitVec.toNat_and, BitVec.toNat_ofNat, BitVec.toNat_ofNat, Nat.mod_eq_of_lt (by omega), Nat.mod_eq_of_lt (by omega)]
 have := Nat.and_le_left (n := a) (m := b)
 exact w64 (by omega)
theorem iorN (a b : Nat) (ha : a < 2 ^ 62) (hb : b < 2 ^ 62) : ior .i64 (a : Int) (b : Int) = ((a ||| b : Nat) : Int) := by
 show IntKind.i64.wrap ((BitVec.ofInt 64 (a : Int) ||| BitVec.ofInt 64 (b : Int)).toNat : Int) = _
 have e1 : BitVec.ofInt 64 (a : Int) = BitVec.ofNat 64 a := rfl
 have e2 : BitVec.ofInt 64 (b : Int) = BitVec.ofNat 64 b := rfl
 rw [e1, e2, BitVec.toNat_or, BitVec.toNat_ofNat, BitVec.toNat_ofNat, Nat.mod_eq_of_lt (by omega), Nat.mod_eq_of_lt (by omega)]
 have := Nat.or_lt_two_pow ha hb
 exact w64 (by omega)
theorem ior_comm (a b : Int) : ior .i64 a b = ior .i64 b a := by
 show IntKind.i64.wrap ((BitVec.ofInt 64 a ||| BitVec.ofInt 64 b).toNat : Int) = IntKind.i64.wrap ((BitVec.ofInt 64 b ||| BitVec.ofInt 64 a).toNat : Int)
 rw [BitVec.or_comm]
def pwI (b : Int) : Int := 2 ^ b.toNat
theorem pwI_0 : pwI 0 = 1 := by decide
theorem pwI_7 : pwI 7 = 128 := by decide
theorem pwI_bd {b : Int} (h1 : 1 ≤ b) (h8 : b ≤ 8) : 2 ≤ pwI b ∧ pwI b ≤ 256 := by
 obtain rfl | rfl | rfl | rfl | rfl | rfl | rfl | rfl : b = 1 ∨ b = 2 ∨ b = 3 ∨ b = 4 ∨ b = 5 ∨ b = 6 ∨ b = 7 ∨ b = 8 := by omega
 all_goals decide
theorem pwI_and {b n : Int} (h1 : 1 ≤ b) (h8 : b ≤ 8) (hn : 0 ≤ n) (hn2 : n ≤ 4294967296) : iand .i64 n (pwI b - 1) = n % pwI b := by
 obtain ⟨k, rfl⟩ : ∃ k : Nat, n = k := ⟨n.toNat, by omega⟩
 have hk : 2 ^ b.toNat ≤ 2 ^ 8 := Nat.pow_le_pow_right (by decide) (by omega)
 have hk0 : 0 < 2 ^ b.toNat := Nat.pow_pos (by decide)
 have e : pwI b - 1 = ((2 ^ b.toNat - 1 : Nat) : Int) := by
  unfold pwI
  have : (2 : Int) ^ b.toNat = ((2 ^ b.toNat : Nat) : Int) := by simp
  rw [this]; omega
 rw [e, iandN k _ (by omega) (by omega), Nat.and_two_pow_sub_one_eq_mod]
 unfold pwI
 simp
theorem pwI_or {b f n : Int} (h1 : 1 ≤ b) (h8 : b ≤ 8) (hf : f % pwI b = 0) (hf0 : 0 ≤ f) (hf1 : f ≤ 255) (hn : 0 ≤ n) (hn2 : n < pwI b) : ior .i64 f n = f + n ∧ f + pwI b ≤ 256 := by
 obtain ⟨k, rfl⟩ : ∃ k : Nat, n = k := ⟨n.toNat, by omega⟩
 obtain ⟨g, rfl⟩ : ∃ k : Nat, f = k := ⟨f.toNat, by omega⟩
 have e : pwI b = ((2 ^ b.toNat : Nat) : Int) := by unfold pwI; simp
 have hbd := pwI_bd h1 h8
 rw [e] at hf hn2 hbd ⊢
 obtain ⟨q, hq⟩ : ∃ q, g = 2 ^ b.toNat * q := ⟨g / 2 ^ b.toNat, by
  have h3 := Nat.div_add_mod g (2 ^ b.toNat)
  have h4 : ((g % 2 ^ b.toNat : Nat) : Int) = 0 := by rw [Int.natCast_emod]; exact hf
  omega⟩
 refine ⟨?_, ?_⟩
 ·rw [iorN _ _ (by omega) (by omega)]
  have := Nat.two_pow_add_eq_or_of_lt (i := b.toNat) (b := k) (by omega) q
  rw [hq, ← this]; simp
 ·obtain rfl | rfl | rfl | rfl | rfl | rfl | rfl | rfl : b = 1 ∨ b = 2 ∨ b = 3 ∨ b = 4 ∨ b = 5 ∨ b = 6 ∨ b = 7 ∨ b = 8 := by omega
  all_goals (simp at hq ⊢; omega)
def byI (x : Int) : UInt8 := UInt8.ofNat x.toNat
theorem byI_val {x : Int} (h0 : 0 ≤ x) (h1 : x ≤ 255) : ((byI x).toNat : Int) = x := by unfold byI; simp; omega
def oneB (x : Int) : List UInt8 := [byI x]
theorem oneB_len (x : Int) : (oneB x).length = 1 := rfl
theorem oneB_map {x : Int} (h0 : 0 ≤ x) (h1 : x ≤ 255) : List.map byteA (oneB x) = [[AV.lit (.int .u8 x)]] := by
 show [[AV.lit (.int .u8 ((byI x).toNat : Int))]] = _
 rw [byI_val h0 h1]
def digF : Nat → Int → List UInt8
 | 0, n => oneB n
 | k + 1, n => if n < 128 then oneB n else oneB (128 + n % 128) ++ digF k (n / 128)
theorem digF_lt {k : Nat} {n : Int} (h : n < 128) : digF k n = oneB n := by cases k with | zero => rfl | succ k => rw [digF, if_pos h]
theorem digF_ge {k : Nat} {n : Int} (h : ¬ n < 128) : digF (k + 1) n = oneB (128 + n % 128) ++ digF k (n / 128) := by rw [digF, if_neg h]
theorem digF_len : ∀ (k : Nat) (n : Int), 1 ≤ (digF k n).length ∧ (digF k n).length ≤ k + 1
 | 0, n => by rw [digF, oneB_len]; omega
 | k + 1, n => by
  rw [digF]
  have := digF_len k (n / 128)
  split
  ·rw [oneB_len]; omega
  ·rw [List.length_append, oneB_len]; omega
def pfxP (f b n : Int) : List UInt8 := if n < pwI b - 1 then oneB (f + n) else oneB (f + pwI b - 1) ++ digF 4 (n - (pwI b - 1))
theorem pfxP_lt {f b n : Int} (h : n < pwI b - 1) : pfxP f b n = oneB (f + n) := by rw [pfxP, if_pos h]
theorem pfxP_ge {f b n : Int} (h : ¬ n < pwI b - 1) : pfxP f b n = oneB (f + pwI b - 1) ++ digF 4 (n - (pwI b - 1)) := by rw [pfxP, if_neg h]
attribute [local irreducible] pwI oneB digF pfxP
theorem pfull (b : Int) (h1 : 1 ≤ b) (h8 : b ≤ 8) : AEq Tryd.prog 73 [i64 b] [] (.tu [i64 (pwI b - 1), bl true]) [] := by
 have hp := pwI_bd h1 h8
 have hwr : IntKind.i64.wrap (IntKind.i64.wrap (2 ^ b.toNat) - 1) = pwI b - 1 := by
  have e : (2 : Int) ^ b.toNat = pwI b := by unfold pwI; rfl
  rw [e, w64 (n := pwI b) (by omega), w64 (by omega)]
 refine acall_body Tryd.func73 rfl Tryd.ntmps73 (by simp) (fun hsc => ?_); simp only [Lf.enter, Nat.reduceAdd]; clear hsc
 have hU := @hwr
 repeat' (first | (guard_target =~ PWp _ _ _ _ _ _ _; first | (refine pwp_seq_k (fun K hK => ?_)) | (refine pwp_rg_then ?_) | (refine pwp_ret ?_) | (refine pwp_skip ?_) | ((refine pwp_cond_d (fun hcd => ?_) (fun hcd => ?_)) <;> (try simp only [hcP] at hcd) <;> (try exact cdT))) | (guard_target =~ rg _ _ _ _ _ _ _; first | (guard_target =~ rg _ _ _ (⟨_, .move _, _, _, _, some _⟩ :: _) _ _ _; first | (refine rg_gq rfl (h := ?_))) | (guard_target =~ rg _ _ _ (⟨_, .binOp _ _ _ _ _, _, _, _, some _⟩ :: _) _ _ _; first | (refine rg_gq rfl (h := ?_))) | (guard_target =~ rg _ _ _ [] _ _ _; first | (refine rg_end ?_)) | (refine rg_a rfl (h := ?_)) | (refine rg_v rfl (h := ?_))) | (guard_target =~ (_ ∨ _) ∧ _; first | ((refine end_d [] (by rw [Tryd.results73, Lf.res2]) (ale_2 ?_ ?_) ?_) <;> (try (first | exact aleT | exact stq (by with_reducible rfl) | exact stq (by rfl) | exact stq (by simp (disch := omega) only [go_sem, seval, ↓reduceIte, hU]))))) | (refine hK _ _ ?_; clear hK K))
theorem rpower (b : Int) (h0 : 0 ≤ b) (h8 : b ≤ 28) : AEq Tryd.prog 75 [i64 b] [] (i64 (pwI b)) [] := by
  obtain ⟨k, rfl⟩ : ∃ k : Nat, b = k := ⟨b.toNat, by omega⟩
  refine acall_body Tryd.func75 rfl Tryd.ntmps75 (by simp) (fun hsc => ?_); simp only [Lf.enter, Nat.reduceAdd]; clear hsc
  have hU := True.intro
  repeat' (first | (guard_target =~ PWp _ _ _ _ _ _ _; first | (refine pwp_seq_k (fun K hK => ?_)) | (refine pwp_block ?_) | (refine pwp_rg_then ?_)) | (guard_target =~ rg _ _ _ _ _ _ _; first | (guard_target =~ rg _ _ _ [] _ _ _; first | (refine rg_end ?_)) | (refine rg_a rfl (h := ?_))) | (refine hK _ _ ?_; clear hK K))
  refine pwp_loop_e [3, 4, 5, 6, 7, 8, 9, 10, 11] (fun i : Nat => [(4, i64 i), (3, i64 (pwI i))]) (fun i => []) (fun i => i ≤ k) (fun i => k - i) 0 (Nat.zero_le _) ?_ rfl ?_
  · (refine ⟨⟨_, sT, ?_⟩, ⟨_, sT, ?_⟩, trivial⟩ <;> (try (first | exact aleT)))
    all_goals exact ale_eq (by rw [show (((0 : Nat) : Int)) = 0 from rfl, pwI_0])
  · rintro i hi
    simp only [mask, List.map_cons, List.map_nil, List.cons_append, List.nil_append]
    have hpb : 1 ≤ pwI (i : Int) ∧ pwI (i : Int) ≤ 268435456 := by
      have h5 : 2 ^ i ≤ 2 ^ 28 := Nat.pow_le_pow_right (by decide) (by omega)
      have h6 : 0 < 2 ^ i := Nat.pow_pos (by decide)
      have e : pwI (i : Int) = ((2 ^ i : Nat) : Int) := by unfold pwI; simp
      rw [e]; omega
    by_cases hlt : i < k
    · have hps : pwI ((i + 1 : Nat) : Int) = 2 * pwI (i : Int) := by
        unfold pwI
        rw [Int.toNat_natCast, Int.toNat_natCast, Int.pow_succ]; omega
      repeat' (first | (guard_target =~ PWp _ _ _ _ _ _ _; first | (refine pwp_seq_k (fun K hK => ?_)) | (refine pwp_block ?_) | (refine pwp_rg_then ?_) | (refine pwp_rg ?_) | (refine pwp_skip ?_) | ((refine pwp_cond_d (fun hcd => ?_) (fun hcd => ?_)) <;> (try simp only [hcP] at hcd) <;> (try exact cdT))) | (guard_target =~ rg _ _ _ _ _ _ _; first | (guard_target =~ rg _ _ _ [] _ _ _; first | (refine rg_end ?_)) | (refine rg_a rfl (h := ?_)) | (refine rg_v rfl (h := ?_))) | (refine hK _ _ ?_; clear hK K))
      refine ⟨i + 1, by omega, by omega, ?_, (by repeat' (first | exact agr_refl | refine agr_cons (by rfl) ?_)), (by first | rfl | (simp (disch := omega) only [go_sem, seval, ↓reduceIte, hU]; done) | (simp (disch := omega) only [go_sem, seval, ↓reduceIte, hU]; rfl))⟩
      (refine ⟨⟨_, sT, ?_⟩, ⟨_, sT, ?_⟩, trivial⟩ <;> (try (first | exact aleT)))
      all_goals exact ale_i hps.symm
    · have hik : i = k := by omega
      subst hik
      repeat' (first | (guard_target =~ PWp _ _ _ _ _ _ _; first | (refine pwp_seq_k (fun K hK => ?_)) | (refine pwp_rg_then ?_) | (refine pwp_ret ?_) | (refine pwp_exit ?_) | ((refine pwp_cond_d (fun hcd => ?_) (fun hcd => ?_)) <;> (try simp only [hcP] at hcd) <;> (try exact cdT))) | (guard_target =~ rg _ _ _ _ _ _ _; first | (guard_target =~ rg _ _ _ [] _ _ _; first | (refine rg_end ?_)) | (refine rg_a rfl (h := ?_)) | (refine rg_v rfl (h := ?_))) | (guard_target =~ (_ ∨ _) ∧ _; first | ((refine end_d [] (by rw [Tryd.results75, Lf.res1]) (ale_1 ?_) ?_) <;> (try (first | exact aleT | exact stq (by with_reducible rfl) | exact stq (by rfl) | exact stq (by simp (disch := omega) only [go_sem, seval, ↓reduceIte, hU]))))) | (refine hK _ _ ?_; clear hK K) | (apply_assumption (exfalso := false) (symm := false)))
theorem rdig0 : ∀ (k : Nat) (n : Int), k ≤ 4 → 0 ≤ n → n < 128 ^ (k + 1) → n ≤ 4294967296 → AEq Tryd.prog 78 [i64 n] [] (.sl false false ((digF k n).map byteA)) [] := by
 intro k
 induction k with
 | zero =>
  intro n hk4 h0 h1 h2
  have hlt : n < 128 := h1
  have hone := oneB_map h0 (by omega)
  rw [digF_lt hlt, hone]
  refine acall_body Tryd.func78 rfl Tryd.ntmps78 (by simp) (fun hsc => ?_); simp only [Lf.enter, Nat.reduceAdd]; clear hsc
  have hU := @hone
  repeat' (first | (guard_target =~ PWp _ _ _ _ _ _ _; first | (refine pwp_seq_k (fun K hK => ?_)) | (refine pwp_rg_then ?_) | (refine pwp_ret ?_) | ((refine pwp_cond_d (fun hcd => ?_) (fun hcd => ?_)) <;> (try simp only [hcP] at hcd) <;> (try exact cdT))) | (guard_target =~ rg _ _ _ _ _ _ _; first | (guard_target =~ rg _ _ _ [] _ _ _; first | (refine rg_end ?_)) | (refine rg_a rfl (h := ?_)) | (refine rg_v rfl (h := ?_)) | (refine rg_s rfl ?_)) | (guard_target =~ SOp _ _ _ _ _ _; first | (guard_target =~ SOp _ _ ⟨_, .buildSlice _ _ _, _, _, _, none⟩ _ _ _; first | (refine n_lit rfl (he := by first | exact eo3 | exact eo4 | exact eo5 | exact eo22 | fail) (hK := ?_)))) | (guard_target =~ (_ ∨ _) ∧ _; first | ((refine end_d [] (by rw [Tryd.results78, Lf.res1]) (ale_1 ?_) ?_) <;> (try (first | exact aleT | exact stq (by with_reducible rfl) | exact stq (by rfl) | exact stq (by simp (disch := omega) only [go_sem, seval, ↓reduceIte, hU]))))) | (refine hK _ _ ?_; clear hK K))
 | succ k ih =>
  intro n hk4 h0 h1 h2
  by_cases hlt : n < 128
  ·have hone := oneB_map h0 (by omega)
   rw [digF_lt hlt, hone]
   refine acall_body Tryd.func78 rfl Tryd.ntmps78 (by simp) (fun hsc => ?_); simp only [Lf.enter, Nat.reduceAdd]; clear hsc
   have hU := @hone
   repeat' (first | (guard_target =~ PWp _ _ _ _ _ _ _; first | (refine pwp_seq_k (fun K hK => ?_)) | (refine pwp_rg_then ?_) | (refine pwp_ret ?_) | ((refine pwp_cond_d (fun hcd => ?_) (fun hcd => ?_)) <;> (try simp only [hcP] at hcd) <;> (try exact cdT))) | (guard_target =~ rg _ _ _ _ _ _ _; first | (guard_target =~ rg _ _ _ [] _ _ _; first | (refine rg_end ?_)) | (refine rg_a rfl (h := ?_)) | (refine rg_v rfl (h := ?_)) | (refine rg_s rfl ?_)) | (guard_target =~ SOp _ _ _ _ _ _; first | (guard_target =~ SOp _ _ ⟨_, .buildSlice _ _ _, _, _, _, none⟩ _ _ _; first | (refine n_lit rfl (he := by first | exact eo3 | exact eo4 | exact eo5 | exact eo22 | fail) (hK := ?_)))) | (guard_target =~ (_ ∨ _) ∧ _; first | ((refine end_d [] (by rw [Tryd.results78, Lf.res1]) (ale_1 ?_) ?_) <;> (try (first | exact aleT | exact stq (by with_reducible rfl) | exact stq (by rfl) | exact stq (by simp (disch := omega) only [go_sem, seval, ↓reduceIte, hU]))))) | (refine hK _ _ ?_; clear hK K))
  ·have hone := oneB_map (x := 128 + n % 128) (by omega) (by omega)
   rw [Int.pow_succ] at h1
   have hdl := digF_len k (n / 128)
   rw [digF_ge hlt, List.map_append, hone]
   have hdn : List.map byteA (digF k (n / 128)) ≠ [] := by intro h; have := congrArg List.length h; rw [List.length_map] at this; simp at this; rw [this] at hdl; simp at hdl
   have hq : n / 128 < 128 ^ (k + 1) := by omega
   refine acall_body Tryd.func78 rfl Tryd.ntmps78 (by simp) (fun hsc => ?_); simp only [Lf.enter, Nat.reduceAdd]; clear hsc
   have hU := @hone
   repeat' (first | (guard_target =~ PWp _ _ _ _ _ _ _; first | (refine pwp_seq_k (fun K hK => ?_)) | (refine pwp_rg_then ?_) | (refine pwp_ret ?_) | (refine pwp_skip ?_) | ((refine pwp_cond_d (fun hcd => ?_) (fun hcd => ?_)) <;> (try simp only [hcP] at hcd) <;> (try exact cdT))) | (guard_target =~ rg _ _ _ _ _ _ _; first | (guard_target =~ rg _ _ _ [] _ _ _; first | (refine rg_end ?_)) | (refine rg_a rfl (h := ?_)) | (refine rg_v rfl (h := ?_)) | (refine rg_s rfl ?_)) | (guard_target =~ SOp _ _ _ _ _ _; first | (guard_target =~ SOp _ _ ⟨_, .buildSlice _ _ _, _, _, _, none⟩ _ _ _; first | (refine n_lit rfl (he := by first | exact eo3 | exact eo4 | exact eo5 | exact eo22 | fail) (hK := ?_))) | (guard_target =~ SOp _ _ ⟨_, .call ⟨.builtin .append, _, _⟩, _, _, _, none⟩ _ _ _; first | (refine n_append_new rfl (he := by first | exact eo3 | exact eo4 | exact eo5 | exact eo22 | fail) (hne := by first | exact .inl rfl | exact .inr (by assumption) | exact .inr (by simp; done) | fail) (hK := ?_))) | (guard_target =~ SOp _ _ ⟨_, .call ⟨.value (.func 78), _, _⟩, _, _, _, none⟩ _ _ _; first | (refine n_call (f := 78) rfl Tryd.call78 (h := AEq.pure' (by refine ⟨?_, trivial⟩; exact arg_lit) (ih _ (by omega) (by omega) (by omega) (by omega)) (hq := ?_))))) | (guard_target =~ (_ ∨ _) ∧ _; first | ((refine end_d [] (by rw [Tryd.results78, Lf.res1]) (ale_1 ?_) ?_) <;> (try (first | exact aleT | exact stq (by with_reducible rfl) | exact stq (by rfl) | exact stq (by simp (disch := omega) only [go_sem, seval, ↓reduceIte, hU]))))) | (refine hK _ _ ?_; clear hK K))
theorem rdig (n : Int) (h0 : 0 ≤ n) (h1 : n ≤ 4294967295) : AEq Tryd.prog 78 [i64 n] [] (.sl false false ((digF 4 n).map byteA)) [] := rdig0 4 n (by omega) h0 (by omega) (by omega)
theorem pput_r (f b n : Int) (h1 : 1 ≤ b) (h8 : b ≤ 8) (h0 : 0 ≤ f) (h255 : f ≤ 255) (hf : f % pwI b = 0) (hn0 : 0 ≤ n) (hn1 : n ≤ 2147483647) : AEq Tryd.prog 50 [i64 f, i64 b, i64 n] [] (.tu [.row 0 ((pfxP f b n).length - 1), i64 0]) [.row ((pfxP f b n).length - 1) 5 1 ((pfxP f b n).map byteA)] := by
  have hp := pwI_bd h1 h8
  have hand := pwI_and (n := f) h1 h8 h0 (by omega)
  rw [hf] at hand
  by_cases hlt : n < pwI b - 1
  · obtain ⟨hor, hle⟩ := pwI_or h1 h8 hf h0 h255 hn0 (by omega)
    have hone := oneB_map (x := f + n) (by omega) (by omega)
    rw [pfxP_lt hlt, hone, oneB_len]
    refine acall_body Tryd.func50 rfl Tryd.ntmps50 (by simp) (fun hsc => ?_); simp only [Lf.enter, Nat.reduceAdd]; clear hsc
    have hU := And.intro @hand (@hor)
    repeat' (first | (guard_target =~ PWp _ _ _ _ _ _ _; first | (refine pwp_seq_k (fun K hK => ?_)) | (refine pwp_block ?_) | (refine pwp_rg_then ?_) | (refine pwp_ret ?_) | ((refine pwp_cond_d (fun hcd => ?_) (fun hcd => ?_)) <;> (try simp only [hcP] at hcd) <;> (try exact cdT))) | (guard_target =~ rg _ _ _ _ _ _ _; first | (guard_target =~ rg _ _ _ (⟨_, .move _, _, _, _, some _⟩ :: _) _ _ _; first | (refine rg_gtp rfl (h := ?_)) | (refine rg_gq rfl (h := ?_))) | (guard_target =~ rg _ _ _ (⟨_, .binOp _ _ _ _ _, _, _, _, some _⟩ :: _) _ _ _; first | (refine rg_gtp rfl (h := ?_)) | (refine rg_gq rfl (h := ?_))) | (guard_target =~ rg _ _ _ [] _ _ _; first | (refine rg_end ?_)) | (refine rg_a rfl (h := ?_)) | (refine rg_x rfl (hy := rfl) (h := ?_)) | (refine rg_v rfl (h := ?_)) | (refine rg_s rfl ?_)) | (guard_target =~ SOp _ _ _ _ _ _; first | (guard_target =~ SOp _ _ ⟨_, .buildSlice _ _ _, _, _, _, none⟩ _ _ _; first | (refine n_lit_r rfl sT (by first | exact eo3 | exact eo4 | exact eo5 | exact eo22 | exact eo28 | fail) (by first | (simp (disch := omega) only [go_sem, seval, ↓reduceIte, hU]; done) | rfl) (by first | (simp (disch := omega) only [go_sem, seval, ↓reduceIte, hU]; done) | rfl) (by first | (simp (disch := omega) only [go_sem, seval, ↓reduceIte, hU]; done) | rfl) sT sT sT (by first | (simp (disch := omega) only [go_sem, seval, ↓reduceIte, hU]; done) | rfl) sT sT sT ?_)) | (guard_target =~ SOp _ _ ⟨_, .call ⟨.value (.func 73), _, _⟩, _, _, _, none⟩ _ _ _; first | (refine n_call (f := 73) rfl Tryd.call73 (h := AEq.pure' agT (pfull _ (by assumption) (by assumption)) (hq := ?_))))) | (guard_target =~ (_ ∨ _) ∧ _; first | ((refine end_d [0] (by rw [Tryd.results50, Lf.res2]) (ale_2 ?_ ?_) ?_) <;> (try (first | exact aleT | exact stq (by with_reducible rfl) | exact stq (by rfl) | exact stq (by simp (disch := omega) only [go_sem, seval, ↓reduceIte, hU]))))) | (refine hK _ _ ?_; clear hK K))
  · obtain ⟨hor, hle⟩ := pwI_or (n := pwI b - 1) h1 h8 hf h0 h255 (by omega) (by omega)
    have hone := oneB_map (x := f + (pwI b - 1)) (by omega) (by omega)
    have hol1 := oneB_len (f + (pwI b - 1))
    rw [pfxP_ge hlt]
    rw [show f + pwI b - 1 = f + (pwI b - 1) from by omega]
    obtain ⟨tot, htot⟩ : ∃ l, oneB (f + (pwI b - 1)) ++ digF 4 (n - (pwI b - 1)) = l := ⟨_, rfl⟩
    rw [htot]
    refine acall_body Tryd.func50 rfl Tryd.ntmps50 (by simp) (fun hsc => ?_); simp only [Lf.enter, Nat.reduceAdd]; clear hsc
    have hU := And.intro @hand (@hor)
    repeat' (first | (guard_target =~ PWp _ _ _ _ _ _ _; first | (refine pwp_seq_k (fun K hK => ?_)) | (refine pwp_block ?_) | (refine pwp_rg_then ?_) | (refine pwp_skip ?_) | ((refine pwp_cond_d (fun hcd => ?_) (fun hcd => ?_)) <;> (try simp only [hcP] at hcd) <;> (try exact cdT))) | (guard_target =~ rg _ _ _ _ _ _ _; first | (guard_target =~ rg _ _ _ (⟨_, .move _, _, _, _, some _⟩ :: _) _ _ _; first | (refine rg_gtp rfl (h := ?_)) | (refine rg_gq rfl (h := ?_))) | (guard_target =~ rg _ _ _ (⟨_, .binOp _ _ _ _ _, _, _, _, some _⟩ :: _) _ _ _; first | (refine rg_gtp rfl (h := ?_)) | (refine rg_gq rfl (h := ?_))) | (guard_target =~ rg _ _ _ [] _ _ _; first | (refine rg_end ?_)) | (refine rg_a rfl (h := ?_)) | (refine rg_x rfl (hy := rfl) (h := ?_)) | (refine rg_v rfl (h := ?_)) | (refine rg_s rfl ?_)) | (guard_target =~ SOp _ _ _ _ _ _; first | (guard_target =~ SOp _ _ ⟨_, .buildSlice _ _ _, _, _, _, none⟩ _ _ _; first | (refine n_lit_r rfl sT (by first | exact eo3 | exact eo4 | exact eo5 | exact eo22 | exact eo28 | fail) (by first | (simp (disch := omega) only [go_sem, seval, ↓reduceIte, hU]; done) | rfl) (by first | (simp (disch := omega) only [go_sem, seval, ↓reduceIte, hU]; done) | rfl) (by first | (simp (disch := omega) only [go_sem, seval, ↓reduceIte, hU]; done) | rfl) sT sT sT (by first | (simp (disch := omega) only [go_sem, seval, ↓reduceIte, hU]; done) | rfl) sT sT sT ?_)) | (guard_target =~ SOp _ _ ⟨_, .call ⟨.value (.func 73), _, _⟩, _, _, _, none⟩ _ _ _; first | (refine n_call (f := 73) rfl Tryd.call73 (h := AEq.pure' agT (pfull _ (by assumption) (by assumption)) (hq := ?_))))) | (refine hK _ _ ?_; clear hK K))
    refine pwp_loop_e [2, 10, 57, 58, 59, 60, 61, 62, 63, 64, 65, 66, 67] (fun s : List UInt8 × Nat × Int => [(10, .row 0 (s.1.length - 1)), (2, i64 s.2.2)]) (fun s => [.row (s.1.length - 1) 5 1 (s.1.map byteA)]) (fun s => s.2.1 ≤ 4 ∧ 0 ≤ s.2.2 ∧ s.2.2 ≤ 4294967295 ∧ s.2.2 < 128 ^ (s.2.1 + 1) ∧ s.1.length + s.2.1 = 5 ∧ s.1 ++ digF s.2.1 s.2.2 = tot) (fun s => s.2.1) (oneB (f + (pwI b - 1)), 4, n - (pwI b - 1)) ⟨Nat.le_refl _, by dsimp only; omega, by dsimp only; omega, by dsimp only; omega, by dsimp only; omega, htot⟩ ?_ (by dsimp only; rw [hone, hol1]) ?_
    · dsimp only
      rw [hol1]
      have hU := True.intro
      (refine ⟨⟨_, sT, ?_⟩, ⟨_, sT, ?_⟩, trivial⟩ <;> (try (first | exact aleT)))
    · rintro ⟨o, k, m⟩ ⟨hk, hm0, hm1, hm2, hol, hot⟩
      dsimp only at hk hm0 hm1 hm2 hol hot ⊢
      simp only [mask, List.map_cons, List.map_nil, List.cons_append, List.nil_append]
      by_cases hge : m < 128
      · rw [digF_lt hge] at hot
        have hon := oneB_map hm0 (by omega)
        have hapt : List.map byteA o ++ [[AV.lit (.int .u8 m)]] = List.map byteA tot := by rw [← hot, List.map_append, hon]
        have hln : tot.length - 1 = o.length - 1 + 1 := by rw [← hot, List.length_append, oneB_len]; omega
        have hU := @hapt
        repeat' (first | (guard_target =~ PWp _ _ _ _ _ _ _; first | (refine pwp_seq_k (fun K hK => ?_)) | (refine pwp_rg_then ?_) | (refine pwp_ret ?_) | (refine pwp_exit ?_) | ((refine pwp_cond_d (fun hcd => ?_) (fun hcd => ?_)) <;> (try simp only [hcP] at hcd) <;> (try exact cdT))) | (guard_target =~ rg _ _ _ _ _ _ _; first | (guard_target =~ rg _ _ _ [] _ _ _; first | (refine rg_end ?_)) | (refine rg_a rfl (h := ?_)) | (refine rg_v rfl (h := ?_)) | (refine rg_s rfl ?_)) | (guard_target =~ SOp _ _ _ _ _ _; first | (guard_target =~ SOp _ _ ⟨_, .buildSlice _ _ _, _, _, _, none⟩ _ _ _; first | (refine n_lit rfl (he := by first | exact eo3 | exact eo4 | exact eo5 | exact eo22 | exact eo28 | fail) (hK := ?_))) | (guard_target =~ SOp _ _ ⟨_, .call ⟨.builtin .append, _, _⟩, _, _, _, none⟩ _ _ _; first | (refine n_append_row rfl (he := by first | exact eo3 | exact eo4 | exact eo5 | exact eo22 | exact eo28 | fail) (hK := ?_)))) | (guard_target =~ (_ ∨ _) ∧ _; first | ((refine end_d [0] (by rw [Tryd.results50, Lf.res2]) (ale_2 ?_ ?_) ?_) <;> (try (first | exact aleT | exact stq (by with_reducible rfl) | exact stq (by rfl) | exact stq (by simp (disch := omega) only [go_sem, seval, ↓reduceIte, hU]))))) | (refine hK _ _ ?_; clear hK K) | (apply_assumption (exfalso := false) (symm := false)))
        all_goals first | exact ale_eq (by rw [hln]) | (rw [hln]; exact stq rfl) | trace_state
      · obtain ⟨k, rfl⟩ : ∃ j, k = j + 1 := ⟨k - 1, by
          cases k with
          | zero => simp at hm2; omega
          | succ k => rfl⟩
        rw [digF_ge hge, ← List.append_assoc] at hot
        rw [Int.pow_succ] at hm2
        have h127 : iand .i64 m 127 = m % 128 := by
          have := pwI_and (b := 7) (n := m) (by decide) (by decide) hm0 (by omega)
          rw [pwI_7] at this; exact this
        have h128 : ior .i64 (m % 128) 128 = 128 + m % 128 := by
          have := (pwI_or (b := 7) (f := 128) (n := m % 128) (by decide) (by decide) (by rw [pwI_7]; decide) (by decide) (by decide) (by omega) (by rw [pwI_7]; omega)).1
          rw [ior_comm]; exact this
        have hon := oneB_map (x := 128 + m % 128) (by omega) (by omega)
        have hapl : List.map byteA o ++ [[AV.lit (.int .u8 (128 + m % 128))]] = List.map byteA (o ++ oneB (128 + m % 128)) := by rw [List.map_append, hon]
        have hln : (o ++ oneB (128 + m % 128)).length = o.length + 1 := by rw [List.length_append, oneB_len]
        have hln2 : o.length - 1 + 1 = o.length + 1 - 1 := by omega
        have hU := And.intro @h127 ( And.intro @h128 (@hapl))
        repeat' (first | (guard_target =~ PWp _ _ _ _ _ _ _; first | (refine pwp_seq_k (fun K hK => ?_)) | (refine pwp_block ?_) | (refine pwp_rg_then ?_) | (refine pwp_rg ?_) | (refine pwp_skip ?_) | ((refine pwp_cond_d (fun hcd => ?_) (fun hcd => ?_)) <;> (try simp only [hcP] at hcd) <;> (try exact cdT))) | (guard_target =~ rg _ _ _ _ _ _ _; first | (guard_target =~ rg _ _ _ [] _ _ _; first | (refine rg_end ?_)) | (refine rg_a rfl (h := ?_)) | (refine rg_v rfl (h := ?_)) | (refine rg_s rfl ?_)) | (guard_target =~ SOp _ _ _ _ _ _; first | (guard_target =~ SOp _ _ ⟨_, .buildSlice _ _ _, _, _, _, none⟩ _ _ _; first | (refine n_lit rfl (he := by first | exact eo3 | exact eo4 | exact eo5 | exact eo22 | exact eo28 | fail) (hK := ?_))) | (guard_target =~ SOp _ _ ⟨_, .call ⟨.builtin .append, _, _⟩, _, _, _, none⟩ _ _ _; first | (refine n_append_row rfl (he := by first | exact eo3 | exact eo4 | exact eo5 | exact eo22 | exact eo28 | fail) (hK := ?_)))) | (refine hK _ _ ?_; clear hK K) | (dsimp only [Lf.thenQ, Lf.blockQ]))
        refine ⟨(o ++ oneB (128 + m % 128), k, m / 128), ⟨by dsimp only; omega, by dsimp only; omega, by dsimp only; omega, by dsimp only; omega, by dsimp only; rw [hln]; omega, hot⟩, by dsimp only; omega, ?_, (by repeat' (first | exact agr_refl | refine agr_cons (by rfl) ?_)), ?_⟩
        · dsimp only
          rw [hln, ← hln2]
          (refine ⟨⟨_, sT, ?_⟩, ⟨_, sT, ?_⟩, trivial⟩ <;> (try (first | exact aleT)))
        · dsimp only
          rw [hln, ← hln2]
end Go.Proofs.YtohbfcmmpaikhaaDoor

set_option linter.unusedVariables false
set_option linter.unusedSimpArgs false
namespace Go.Proofs.YtohbfcmmpaikhaaDoor
open Go Go.Lf Go.Proofs
attribute [local irreducible] Lf.rg Lf.ro Lf.PWp Lf.SOp Lf.ACall Lf.Scoped Lf.dg Lf.dw
set_option maxRecDepth 20000
set_option maxHeartbeats 4000000
def pst (b n : Int) : Nat := if n < pwI b - 1 then 0 else 1
theorem pst_lt {b n : Int} (h : n < pwI b - 1) : pst b n = 0 := if_pos h
theorem pst_ge {b n : Int} (h : ¬ n < pwI b - 1) : pst b n = 1 := if_neg h
def pgF (b : List UInt8) : Nat → Nat → Int → Int × Int × Int
 | 0, _, _ => (0, 0, 5)
 | k + 1, a, n => match b[a + 1]? with
  | none => (0, 0, 3)
  | some x => if (x.toNat : Int) < 128 then (if 2147483647 < n + (x.toNat : Int) % 128 * pwI (7 * (a : Int)) then (0, 0, 5) else (n + (x.toNat : Int) % 128 * pwI (7 * (a : Int)), (a : Int) + 2, 0)) else pgF b k (a + 1) (n + (x.toNat : Int) % 128 * pwI (7 * (a : Int)))
def pgG (b : List UInt8) (c : Int) : Int × Int × Int := match b[0]? with
 | none => (0, 0, 3)
 | some x => if (x.toNat : Int) % pwI c < pwI c - 1 then ((x.toNat : Int) % pwI c, 1, 0) else pgF b 5 0 ((x.toNat : Int) % pwI c)
attribute [local irreducible] pwI pgF
theorem rput18_r (f b n : Int) (h1 : 1 ≤ b) (h8 : b ≤ 8) (h0 : 0 ≤ f) (h255 : f ≤ 255) (hf : f % pwI b = 0) (hn0 : 0 ≤ n) (hn1 : n ≤ 2147483647) : AEq Tryd.prog 53 [i64 f, i64 b, i64 n] [] (.tu [.row 0 (pst b n), i64 0]) [.row (pst b n) 5 1 ((pfxP f b n).map byteA)] := by
 have hp := pwI_bd h1 h8
 by_cases hlt : n < pwI b - 1
 ·have hle := (pwI_or h1 h8 hf h0 h255 hn0 (by omega)).2
  have hone := oneB_map (x := f + n) (by omega) (by omega)
  rw [pfxP_lt hlt, hone, pst_lt hlt]
  refine acall_body Tryd.func53 rfl Tryd.ntmps53 (by simp) (fun hsc => ?_); simp only [Lf.enter, Nat.reduceAdd]; clear hsc
  have hU := @hf
  repeat' (first | (guard_target =~ PWp _ _ _ _ _ _ _; first | (refine pwp_seq_k (fun K hK => ?_)) | (refine pwp_rg_then ?_) | (refine pwp_ret ?_) | (refine pwp_skip ?_) | ((refine pwp_cond_d (fun hcd => ?_) (fun hcd => ?_)) <;> (try simp only [hcP] at hcd) <;> (try exact cdT))) | (guard_target =~ rg _ _ _ _ _ _ _; first | (guard_target =~ rg _ _ _ (⟨_, .move _, _, _, _, some _⟩ :: _) _ _ _; first | (refine rg_gtp rfl (h := ?_)) | (refine rg_gq rfl (h := ?_)) | (refine rg_gt rfl (h := ?_)) | ((first | refine rg_case (by simp only [go_sem, seval, ↓reduceIte, hU] <;> rfl) (fun hcd => ?_) (fun hcd => ?_) | refine rg_case2 (by simp only [go_sem, seval, ↓reduceIte, hU] <;> rfl) (fun hcd => ?_) (fun hcd => ?_)) <;> (try simp only [hcd]) <;> (try (simp only [Bool.not_eq_true', Bool.not_eq_false'] at hcd; try simp only [hcd])) <;> (refine rg_w (Γ2 := _) (by repeat' (first | exact envw_nil | apply envw_cons | exact opens_t | exact opens_f | exact opens_r)) ?_) <;> (try simp only [hcP] at hcd) <;> (try exact cdT))) | (guard_target =~ rg _ _ _ (⟨_, .binOp _ _ _ _ _, _, _, _, some _⟩ :: _) _ _ _; first | (refine rg_gtp rfl (h := ?_)) | (refine rg_gq rfl (h := ?_)) | (refine rg_gt rfl (h := ?_)) | ((first | refine rg_case (by simp only [go_sem, seval, ↓reduceIte, hU] <;> rfl) (fun hcd => ?_) (fun hcd => ?_) | refine rg_case2 (by simp only [go_sem, seval, ↓reduceIte, hU] <;> rfl) (fun hcd => ?_) (fun hcd => ?_)) <;> (try simp only [hcd]) <;> (try (simp only [Bool.not_eq_true', Bool.not_eq_false'] at hcd; try simp only [hcd])) <;> (refine rg_w (Γ2 := _) (by repeat' (first | exact envw_nil | apply envw_cons | exact opens_t | exact opens_f | exact opens_r)) ?_) <;> (try simp only [hcP] at hcd) <;> (try exact cdT))) | (guard_target =~ rg _ _ _ (⟨_, .call ⟨.value (.func 75), _, _⟩, _, _, _, some _⟩ :: _) _ _ _; first | (refine rg_gtp rfl (h := ?_)) | (refine rg_gq rfl (h := ?_)) | (refine rg_gt rfl (h := ?_)) | ((first | refine rg_case (by simp only [go_sem, seval, ↓reduceIte, hU] <;> rfl) (fun hcd => ?_) (fun hcd => ?_) | refine rg_case2 (by simp only [go_sem, seval, ↓reduceIte, hU] <;> rfl) (fun hcd => ?_) (fun hcd => ?_)) <;> (try simp only [hcd]) <;> (try (simp only [Bool.not_eq_true', Bool.not_eq_false'] at hcd; try simp only [hcd])) <;> (refine rg_w (Γ2 := _) (by repeat' (first | exact envw_nil | apply envw_cons | exact opens_t | exact opens_f | exact opens_r)) ?_) <;> (try simp only [hcP] at hcd) <;> (try exact cdT))) | (guard_target =~ rg _ _ _ [] _ _ _; first | (refine rg_end ?_)) | (refine rg_a rfl (h := ?_)) | (refine rg_v rfl (h := ?_)) | (refine rg_s rfl ?_)) | (guard_target =~ SOp _ _ _ _ _ _; first | (guard_target =~ SOp _ _ ⟨_, .buildSlice _ _ _, _, _, _, none⟩ _ _ _; first | (refine n_lit_r rfl sT (by first | exact eo3 | exact eo4 | exact eo5 | exact eo22 | exact eo28 | fail) (by first | (simp (disch := omega) only [go_sem, seval, ↓reduceIte, hU]; done) | rfl) (by first | (simp (disch := omega) only [go_sem, seval, ↓reduceIte, hU]; done) | rfl) (by first | (simp (disch := omega) only [go_sem, seval, ↓reduceIte, hU]; done) | rfl) sT sT sT (by first | (simp (disch := omega) only [go_sem, seval, ↓reduceIte, hU]; done) | rfl) sT sT sT ?_)) | (guard_target =~ SOp _ _ ⟨_, .call ⟨.value (.func 75), _, _⟩, _, _, _, none⟩ _ _ _; first | (refine n_call (f := 75) rfl Tryd.call75 (h := AEq.pure' agT (rpower _ (by omega) (by omega)) (hq := ?_)))) | (guard_target =~ SOp _ _ ⟨_, .call ⟨.value (.func 75), _, _⟩, _, _, _, some _⟩ _ _ _; first | (refine n_call (f := 75) rfl Tryd.call75 (h := AEq.pure' agT (rpower _ (by omega) (by omega)) (hq := ?_))))) | (guard_target =~ (_ ∨ _) ∧ _; first | ((refine end_d [0] (by rw [Tryd.results53, Lf.res2]) (ale_2 ?_ ?_) ?_) <;> (try (first | exact aleT | exact stq (by with_reducible rfl) | exact stq (by rfl) | exact stq (by simp (disch := omega) only [go_sem, seval, ↓reduceIte, hU]))))) | (refine hK _ _ ?_; clear hK K))
 ·have hle := (pwI_or (n := pwI b - 1) h1 h8 hf h0 h255 (by omega) (by omega)).2
  have hone := oneB_map (x := f + (pwI b - 1)) (by omega) (by omega)
  have hdl := digF_len 4 (n - (pwI b - 1))
  have hdn : List.map byteA (digF 4 (n - (pwI b - 1))) ≠ [] := by intro h; have := congrArg List.length h; rw [List.length_map] at this; simp at this; rw [this] at hdl; simp at hdl
  rw [pfxP_ge hlt, pst_ge hlt, List.map_append, show f + pwI b - 1 = f + (pwI b - 1) from by omega, hone]
  refine acall_body Tryd.func53 rfl Tryd.ntmps53 (by simp) (fun hsc => ?_); simp only [Lf.enter, Nat.reduceAdd]; clear hsc
  have hU := @hf
  repeat' (first | (guard_target =~ PWp _ _ _ _ _ _ _; first | (refine pwp_seq_k (fun K hK => ?_)) | (refine pwp_rg_then ?_) | (refine pwp_ret ?_) | (refine pwp_skip ?_) | ((refine pwp_cond_d (fun hcd => ?_) (fun hcd => ?_)) <;> (try simp only [hcP] at hcd) <;> (try exact cdT))) | (guard_target =~ rg _ _ _ _ _ _ _; first | (guard_target =~ rg _ _ _ (⟨_, .move _, _, _, _, some _⟩ :: _) _ _ _; first | (refine rg_gtp rfl (h := ?_)) | (refine rg_gq rfl (h := ?_)) | (refine rg_gt rfl (h := ?_)) | ((first | refine rg_case (by simp only [go_sem, seval, ↓reduceIte, hU] <;> rfl) (fun hcd => ?_) (fun hcd => ?_) | refine rg_case2 (by simp only [go_sem, seval, ↓reduceIte, hU] <;> rfl) (fun hcd => ?_) (fun hcd => ?_)) <;> (try simp only [hcd]) <;> (try (simp only [Bool.not_eq_true', Bool.not_eq_false'] at hcd; try simp only [hcd])) <;> (refine rg_w (Γ2 := _) (by repeat' (first | exact envw_nil | apply envw_cons | exact opens_t | exact opens_f | exact opens_r)) ?_) <;> (try simp only [hcP] at hcd) <;> (try exact cdT))) | (guard_target =~ rg _ _ _ (⟨_, .binOp _ _ _ _ _, _, _, _, some _⟩ :: _) _ _ _; first | (refine rg_gtp rfl (h := ?_)) | (refine rg_gq rfl (h := ?_)) | (refine rg_gt rfl (h := ?_)) | ((first | refine rg_case (by simp only [go_sem, seval, ↓reduceIte, hU] <;> rfl) (fun hcd => ?_) (fun hcd => ?_) | refine rg_case2 (by simp only [go_sem, seval, ↓reduceIte, hU] <;> rfl) (fun hcd => ?_) (fun hcd => ?_)) <;> (try simp only [hcd]) <;> (try (simp only [Bool.not_eq_true', Bool.not_eq_false'] at hcd; try simp only [hcd])) <;> (refine rg_w (Γ2 := _) (by repeat' (first | exact envw_nil | apply envw_cons | exact opens_t | exact opens_f | exact opens_r)) ?_) <;> (try simp only [hcP] at hcd) <;> (try exact cdT))) | (guard_target =~ rg _ _ _ (⟨_, .call ⟨.value (.func 75), _, _⟩, _, _, _, some _⟩ :: _) _ _ _; first | (refine rg_gtp rfl (h := ?_)) | (refine rg_gq rfl (h := ?_)) | (refine rg_gt rfl (h := ?_)) | ((first | refine rg_case (by simp only [go_sem, seval, ↓reduceIte, hU] <;> rfl) (fun hcd => ?_) (fun hcd => ?_) | refine rg_case2 (by simp only [go_sem, seval, ↓reduceIte, hU] <;> rfl) (fun hcd => ?_) (fun hcd => ?_)) <;> (try simp only [hcd]) <;> (try (simp only [Bool.not_eq_true', Bool.not_eq_false'] at hcd; try simp only [hcd])) <;> (refine rg_w (Γ2 := _) (by repeat' (first | exact envw_nil | apply envw_cons | exact opens_t | exact opens_f | exact opens_r)) ?_) <;> (try simp only [hcP] at hcd) <;> (try exact cdT))) | (guard_target =~ rg _ _ _ [] _ _ _; first | (refine rg_end ?_)) | (refine rg_a rfl (h := ?_)) | (refine rg_v rfl (h := ?_)) | (refine rg_s rfl ?_)) | (guard_target =~ SOp _ _ _ _ _ _; first | (guard_target =~ SOp _ _ ⟨_, .buildSlice _ _ _, _, _, _, none⟩ _ _ _; first | (refine n_lit_r rfl sT (by first | exact eo3 | exact eo4 | exact eo5 | exact eo22 | exact eo28 | fail) (by first | (simp (disch := omega) only [go_sem, seval, ↓reduceIte, hU]; done) | rfl) (by first | (simp (disch := omega) only [go_sem, seval, ↓reduceIte, hU]; done) | rfl) (by first | (simp (disch := omega) only [go_sem, seval, ↓reduceIte, hU]; done) | rfl) sT sT sT (by first | (simp (disch := omega) only [go_sem, seval, ↓reduceIte, hU]; done) | rfl) sT sT sT ?_)) | (guard_target =~ SOp _ _ ⟨_, .call ⟨.value (.func 75), _, _⟩, _, _, _, none⟩ _ _ _; first | (refine n_call (f := 75) rfl Tryd.call75 (h := AEq.pure' agT (rpower _ (by omega) (by omega)) (hq := ?_)))) | (guard_target =~ SOp _ _ ⟨_, .call ⟨.builtin .append, _, _⟩, _, _, _, none⟩ _ _ _; first | (refine n_append_row rfl (he := by first | exact eo3 | exact eo4 | exact eo5 | exact eo22 | exact eo28 | fail) (hK := ?_))) | (guard_target =~ SOp _ _ ⟨_, .call ⟨.value (.func 75), _, _⟩, _, _, _, some _⟩ _ _ _; first | (refine n_call (f := 75) rfl Tryd.call75 (h := AEq.pure' agT (rpower _ (by omega) (by omega)) (hq := ?_)))) | (guard_target =~ SOp _ _ ⟨_, .call ⟨.value (.func 78), _, _⟩, _, _, _, none⟩ _ _ _; first | (refine n_call (f := 78) rfl Tryd.call78 (h := AEq.pure' agT (rdig _ (by omega) (by omega)) (hq := ?_))))) | (guard_target =~ (_ ∨ _) ∧ _; first | ((refine end_d [0] (by rw [Tryd.results53, Lf.res2]) (ale_2 ?_ ?_) ?_) <;> (try (first | exact aleT | exact stq (by with_reducible rfl) | exact stq (by rfl) | exact stq (by simp (disch := omega) only [go_sem, seval, ↓reduceIte, hU]))))) | (refine hK _ _ ?_; clear hK K))
end Go.Proofs.YtohbfcmmpaikhaaDoor

set_option linter.unusedVariables false
set_option linter.unusedSimpArgs false
namespace Go.Proofs.YtohbfcmmpaikhaaDoor
open Go Go.Lf Go.Proofs
attribute [local irreducible] Lf.rg Lf.ro Lf.PWp Lf.SOp Lf.ACall Lf.Scoped Lf.dg
set_option maxRecDepth 20000
set_option maxHeartbeats 4000000
/-! what is put is got -/
end Go.Proofs.YtohbfcmmpaikhaaDoor

set_option linter.unusedVariables false
set_option linter.unusedSimpArgs false
namespace Go.Proofs.YtohbfcmmpaikhaaDoor
open Go Go.Lf Go.Proofs
attribute [local irreducible] Lf.rg Lf.ro Lf.PWp Lf.SOp Lf.ACall Lf.Scoped Lf.dg Lf.dw
set_option maxRecDepth 20000
set_option maxHeartbeats 4000000
section
variable {P : Program} {N : Nat} {o : Oper} {Γ : Env} {σ : Sto} {K : AV → Sto → Prop} {x y : Operand} {ts : Array TypeId} {k k' : IntKind} {a b : Int}
theorem n_max_l (ho : o.op = .call { callee := .builtin .max, args := #[x, y], argTypes := ts }) (hx : ev Γ x = .lit (.int k a)) (hy : ev Γ y = .lit (.int k' b)) (h : b ≤ a) (hK : K (.lit (.int k a)) σ) : SOp P N o Γ σ K := by
 refine SOp.pure (.lit (.int k a)) (fun ρ w ac hf hr => ⟨.int k a, ?_, rfl⟩) hK
 have e1 := hf.lit hx
 have e2 := hf.lit hy
 have h2 : ¬ b > a := by omega
 simp [execOp, ho, resolve, invoke, builtin, Builtin.max_, Builtin.max2, e1, e2, h2]
theorem n_max_r (ho : o.op = .call { callee := .builtin .max, args := #[x, y], argTypes := ts }) (hx : ev Γ x = .lit (.int k a)) (hy : ev Γ y = .lit (.int k' b)) (h : a ≤ b) (hK : K (.lit (.int k b)) σ) : SOp P N o Γ σ K := by
 refine SOp.pure (.lit (.int k b)) (fun ρ w ac hf hr => ⟨.int k b, ?_, rfl⟩) hK
 have e1 := hf.lit hx
 have e2 := hf.lit hy
 by_cases h2 : b > a
 ·simp [execOp, ho, resolve, invoke, builtin, Builtin.max_, Builtin.max2, e1, e2, h2]
 ·obtain rfl : a = b := by omega
  simp [execOp, ho, resolve, invoke, builtin, Builtin.max_, Builtin.max2, e1, e2]
theorem n_max_m (ho : o.op = .call { callee := .builtin .max, args := #[x, y], argTypes := ts }) (hx : ev Γ x = .lit (.int k a)) (hy : ev Γ y = .lit (.int k b)) (hK : K (.lit (.int k (max a b))) σ) : SOp P N o Γ σ K := by
 by_cases h : b ≤ a
 ·rw [show max a b = a from by omega] at hK
  exact n_max_l ho hx hy h hK
 ·rw [show max a b = b from by omega] at hK
  exact n_max_r ho hx hy (by omega) hK
end
end Go.Proofs.YtohbfcmmpaikhaaDoor

