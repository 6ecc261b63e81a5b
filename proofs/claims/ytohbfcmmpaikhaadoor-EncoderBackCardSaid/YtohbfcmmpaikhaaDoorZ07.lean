import Derived.Test.YtohbfcmmpaikhaaDoorZ02
import Derived.Test.YtohbfcmmpaikhaaDoorZ04
import Derived.Test.YtohbfcmmpaikhaaDoorLc
import Derived.Test.YtohbfcmmpaikhaaDoorZ05
set_option linter.unusedVariables false
set_option linter.unusedSimpArgs false
namespace Go.Proofs.YtohbfcmmpaikhaaDoor
open Go Go.Lf Go.Proofs
attribute [local irreducible] Lf.rg Lf.ro Lf.PWp Lf.SOp Lf.ACall Lf.Scoped Lf.dg Lf.dw
set_option maxRecDepth 20000
set_option maxHeartbeats 4000000
/-! bit by bit, of numbers from 0 on -/
theorem iandN (a b : Nat) (ha : a < 2 ^ 62) (hb : b < 2 ^ 62) : iand .i64 (a : Int) (b : Int) = ((a &&& b : Nat) : Int) := by
 show IntKind.i64.wrap ((BitVec.ofInt 64 (a : Int) &&& BitVec.ofInt 64 (b : Int)).toNat : Int) = _
 have e1 : BitVec.ofInt 64 (a : Int) = BitVec.ofNat 64 a := rfl
 have e2 : BitVec.ofInt 64 (b : Int) = BitVec.ofNat 64 b := rfl
 rw [e1, e2, BitVec.toNat_and, BitVec.toNat_ofNat, BitVec.toNat_ofNat, Nat.mod_eq_of_lt (by omega), Nat.mod_eq_of_lt (by omega)]
 have := Nat.and_le_left (n := a) (m := b)
 exact w64 (by omega)
theorem iorN (a b : Nat) (ha : a < 2 ^ 62) (hb : b < 2 ^ 62) : ior .i64 (a : Int) (b : Int) = ((a ||| b : Nat) : Int) := by
 show IntKind.i64.wrap ((BitVec.ofInt 64 (a : Int) ||| BitVec.ofInt 64 (b : Int)).toNat : Int) = _
 have e1 : BitVec.ofInt 64 (a : Int) = BitVec.ofNat 64 a := rfl
 have e2 : BitVec.ofInt 64 (b : Int) = BitVec.ofNat 64 b := rfl
 rw [e1, e2, BitVec.toNat_or, BitVec.toNat_ofNat, BitVec.toNat_ofNat, Nat.mod_eq_of_lt (by omega), Nat.mod_eq_of_lt (by omega)]
 have := Nat.or_lt_two_pow ha hb
 exact w64 (by omega)
theorem ior_comm (a b : Int) : ior .i64 a b = ior .i64 b a := by
 show IntKind.i64.wrap ((BitVec.ofInt 64 a ||| BitVec.ofInt 64 b).toNat : Int) = IntKind.i64.wrap ((BitVec.ofInt 64 b ||| BitVec.ofInt 64 a).toNat : Int)
 rw [BitVec.or_comm]
def pwI (b : Int) : Int := 2 ^ b.toNat
theorem pwI_7 : pwI 7 = 128 := by decide
theorem pwI_bd {b : Int} (h1 : 1 ≤ b) (h8 : b ≤ 8) : 2 ≤ pwI b ∧ pwI b ≤ 256 := by
 obtain rfl | rfl | rfl | rfl | rfl | rfl | rfl | rfl : b = 1 ∨ b = 2 ∨ b = 3 ∨ b = 4 ∨ b = 5 ∨ b = 6 ∨ b = 7 ∨ b = 8 := by omega
 all_goals decide
theorem pwI_and {b n : Int} (h1 : 1 ≤ b) (h8 : b ≤ 8) (hn : 0 ≤ n) (hn2 : n ≤ 4294967296) : iand .i64 n (pwI b - 1) = n % pwI b := by
 obtain ⟨k, rfl⟩ : ∃ k : Nat, n = k := ⟨n.toNat, by omega⟩
 have hk : 2 ^ b.toNat ≤ 2 ^ 8 := Nat.pow_le_pow_right (by decide) (by omega)
 have hk0 : 0 < 2 ^ b.toNat := Nat.pow_pos (by decide)
 have e : pwI b - 1 = ((2 ^ b.toNat - 1 : Nat) : Int) := by
  unfold pwI
  have : (2 : Int) ^ b.toNat = ((2 ^ b.toNat : Nat) : Int) := by simp
  rw [this]; omega
 rw [e, iandN k _ (by omega) (by omega), Nat.and_two_pow_sub_one_eq_mod]
 unfold pwI
 simp
theorem pwI_or {b f n : Int} (h1 : 1 ≤ b) (h8 : b ≤ 8) (hf : f % pwI b = 0) (hf0 : 0 ≤ f) (hf1 : f ≤ 255) (hn : 0 ≤ n) (hn2 : n < pwI b) : ior .i64 f n = f + n ∧ f + pwI b ≤ 256 := by
 obtain ⟨k, rfl⟩ : ∃ k : Nat, n = k := ⟨n.toNat, by omega⟩
 obtain ⟨g, rfl⟩ : ∃ k : Nat, f = k := ⟨f.toNat, by omega⟩
 have e : pwI b = ((2 ^ b.toNat : Nat) : Int) := by unfold pwI; simp
 have hbd := pwI_bd h1 h8
 rw [e] at hf hn2 hbd ⊢
 obtain ⟨q, hq⟩ : ∃ q, g = 2 ^ b.toNat * q := ⟨g / 2 ^ b.toNat, by
  have h3 := Nat.div_add_mod g (2 ^ b.toNat)
  have h4 : ((g % 2 ^ b.toNat : Nat) : Int) = 0 := by rw [Int.natCast_emod]; exact hf
  omega⟩
 refine ⟨?_, ?_⟩
 ·rw [iorN _ _ (by omega) (by omega)]
  have := Nat.two_pow_add_eq_or_of_lt (i := b.toNat) (b := k) (by omega) q
  rw [hq, ← this]; simp
 ·obtain rfl | rfl | rfl | rfl | rfl | rfl | rfl | rfl : b = 1 ∨ b = 2 ∨ b = 3 ∨ b = 4 ∨ b = 5 ∨ b = 6 ∨ b = 7 ∨ b = 8 := by omega
  all_goals (simp at hq ⊢; omega)
def byI (x : Int) : UInt8 := UInt8.ofNat x.toNat
theorem byI_val {x : Int} (h0 : 0 ≤ x) (h1 : x ≤ 255) : ((byI x).toNat : Int) = x := by unfold byI; simp; omega
def oneB (x : Int) : List UInt8 := [byI x]
theorem oneB_len (x : Int) : (oneB x).length = 1 := rfl
theorem oneB_map {x : Int} (h0 : 0 ≤ x) (h1 : x ≤ 255) : List.map byteA (oneB x) = [[AV.lit (.int .u8 x)]] := by
 show [[AV.lit (.int .u8 ((byI x).toNat : Int))]] = _
 rw [byI_val h0 h1]
def digF : Nat → Int → List UInt8
 | 0, n => oneB n
 | k + 1, n => if n < 128 then oneB n else oneB (128 + n % 128) ++ digF k (n / 128)
theorem digF_lt {k : Nat} {n : Int} (h : n < 128) : digF k n = oneB n := by cases k with | zero => rfl | succ k => rw [digF, if_pos h]
theorem digF_ge {k : Nat} {n : Int} (h : ¬ n < 128) : digF (k + 1) n = oneB (128 + n % 128) ++ digF k (n / 128) := by rw [digF, if_neg h]
theorem digF_len : ∀ (k : Nat) (n : Int), 1 ≤ (digF k n).length ∧ (digF k n).length ≤ k + 1
 | 0, n => by rw [digF, oneB_len]; omega
 | k + 1, n => by
  rw [digF]
  have := digF_len k (n / 128)
  split
  ·rw [oneB_len]; omega
  ·rw [List.length_append, oneB_len]; omega
def pfxP (f b n : Int) : List UInt8 := if n < pwI b - 1 then oneB (f + n) else oneB (f + pwI b - 1) ++ digF 4 (n - (pwI b - 1))
theorem pfxP_lt {f b n : Int} (h : n < pwI b - 1) : pfxP f b n = oneB (f + n) := by rw [pfxP, if_pos h]
theorem pfxP_ge {f b n : Int} (h : ¬ n < pwI b - 1) : pfxP f b n = oneB (f + pwI b - 1) ++ digF 4 (n - (pwI b - 1)) := by rw [pfxP, if_neg h]
attribute [local irreducible] pwI oneB digF pfxP
theorem pfull (b : Int) (h1 : 1 ≤ b) (h8 : b ≤ 8) : AEq Tryd.prog 73 [i64 b] [] (.tu [i64 (pwI b - 1), bl true]) [] := by
 have hp := pwI_bd h1 h8
 have hwr : IntKind.i64.wrap (IntKind.i64.wrap (2 ^ b.toNat) - 1) = pwI b - 1 := by
  have e : (2 : Int) ^ b.toNat = pwI b := by unfold pwI; rfl
  rw [e, w64 (n := pwI b) (by omega), w64 (by omega)]
 refine acall_body Tryd.func73 rfl Tryd.ntmps73 (by simp) (fun hsc => ?_); simp only [Lf.enter, Nat.reduceAdd]; clear hsc
 have hU := @hwr
 repeat' (first | (guard_target =~ PWp _ _ _ _ _ _ _; first | (refine pwp_seq_k (fun K hK => ?_)) | (refine pwp_rg_then ?_) | (refine pwp_ret ?_) | (refine pwp_skip ?_) | ((refine pwp_cond_d (fun hcd => ?_) (fun hcd => ?_)) <;> (try simp only [hcP] at hcd) <;> (try (exfalso; first | omega | exact absurd hcd (by assumption) | exact absurd (by assumption) hcd)))) | (guard_target =~ rg _ _ _ _ _ _ _; first | (guard_target =~ rg _ _ _ (⟨_, .move _, _, _, _, some _⟩ :: _) _ _ _; first | (refine rg_gq rfl (h := ?_))) | (guard_target =~ rg _ _ _ (⟨_, .binOp _ _ _ _ _, _, _, _, some _⟩ :: _) _ _ _; first | (refine rg_gq rfl (h := ?_))) | (guard_target =~ rg _ _ _ [] _ _ _; first | (refine rg_end ?_)) | (refine rg_a rfl (h := ?_)) | (refine rg_v rfl (h := ?_))) | (guard_target =~ (_ ∨ _) ∧ _; first | ((refine end_d [] (by rw [Tryd.results73, Lf.res2]) (ale_2 ?_ ?_) ?_) <;> (try (first | exact ale_eq (by with_reducible rfl) | exact ale_full | exact ale_sl (fun _ => rfl) | exact ale_sl (by simp) | exact ale_junk | exact ale_eq rfl | exact stq (by with_reducible rfl) | exact stq (by rfl) | exact stq (by simp (disch := omega) only [go_sem, seval, ↓reduceIte, hU]))))) | (refine hK _ _ ?_; clear hK K))
 all_goals trace_state
theorem pput_r (f b n : Int) (h1 : 1 ≤ b) (h8 : b ≤ 8) (h0 : 0 ≤ f) (h255 : f ≤ 255) (hf : f % pwI b = 0) (hn0 : 0 ≤ n) (hn1 : n ≤ 2147483647) : AEq Tryd.prog 50 [i64 f, i64 b, i64 n] [] (.tu [.row 0 ((pfxP f b n).length - 1), i64 0]) [.row ((pfxP f b n).length - 1) 5 1 ((pfxP f b n).map byteA)] := by
  have hp := pwI_bd h1 h8
  have hand := pwI_and (n := f) h1 h8 h0 (by omega)
  rw [hf] at hand
  by_cases hlt : n < pwI b - 1
  · obtain ⟨hor, hle⟩ := pwI_or h1 h8 hf h0 h255 hn0 (by omega)
    have hone := oneB_map (x := f + n) (by omega) (by omega)
    rw [pfxP_lt hlt, hone, oneB_len]
    refine acall_body Tryd.func50 rfl Tryd.ntmps50 (by simp) (fun hsc => ?_); simp only [Lf.enter, Nat.reduceAdd]; clear hsc
    have hU := And.intro @hand (@hor)
    repeat' (first | (guard_target =~ PWp _ _ _ _ _ _ _; first | (refine pwp_seq_k (fun K hK => ?_)) | (refine pwp_block ?_) | (refine pwp_rg_then ?_) | (refine pwp_ret ?_) | ((refine pwp_cond_d (fun hcd => ?_) (fun hcd => ?_)) <;> (try simp only [hcP] at hcd) <;> (try (exfalso; first | omega | exact absurd hcd (by assumption) | exact absurd (by assumption) hcd)))) | (guard_target =~ rg _ _ _ _ _ _ _; first | (guard_target =~ rg _ _ _ (⟨_, .move _, _, _, _, some _⟩ :: _) _ _ _; first | (refine rg_gtp rfl (h := ?_)) | (refine rg_gq rfl (h := ?_))) | (guard_target =~ rg _ _ _ (⟨_, .binOp _ _ _ _ _, _, _, _, some _⟩ :: _) _ _ _; first | (refine rg_gtp rfl (h := ?_)) | (refine rg_gq rfl (h := ?_))) | (guard_target =~ rg _ _ _ [] _ _ _; first | (refine rg_end ?_)) | (refine rg_a rfl (h := ?_)) | (refine rg_x rfl (hy := rfl) (h := ?_)) | (refine rg_v rfl (h := ?_)) | (refine rg_s rfl ?_)) | (guard_target =~ SOp _ _ _ _ _ _; first | (guard_target =~ SOp _ _ ⟨_, .buildSlice _ _ _, _, _, _, none⟩ _ _ _; first | (refine n_lit_r rfl (by (try simp (disch := omega) only [go_sem, seval, ↓reduceIte, hU]) <;> rfl) (by first | exact eo3 | exact eo4 | exact eo5 | exact eo22 | exact eo28 | fail) (by first | (simp (disch := omega) only [go_sem, seval, ↓reduceIte, hU]; done) | rfl) (by first | (simp (disch := omega) only [go_sem, seval, ↓reduceIte, hU]; done) | rfl) (by first | (simp (disch := omega) only [go_sem, seval, ↓reduceIte, hU]; done) | rfl) (by (try simp (disch := omega) only [go_sem, seval, ↓reduceIte, hU]) <;> rfl) (by (try simp (disch := omega) only [go_sem, seval, ↓reduceIte, hU]) <;> rfl) (by (try simp (disch := omega) only [go_sem, seval, ↓reduceIte, hU]) <;> rfl) (by first | (simp (disch := omega) only [go_sem, seval, ↓reduceIte, hU]; done) | rfl) (by (try simp (disch := omega) only [go_sem, seval, ↓reduceIte, hU]) <;> rfl) (by (try simp (disch := omega) only [go_sem, seval, ↓reduceIte, hU]) <;> rfl) (by (try simp (disch := omega) only [go_sem, seval, ↓reduceIte, hU]) <;> rfl) ?_)) | (guard_target =~ SOp _ _ ⟨_, .call ⟨.value (.func 73), _, _⟩, _, _, _, none⟩ _ _ _; first | (refine n_call (f := 73) rfl Tryd.call73 (h := AEq.pure' (by first | ((repeat' (first | exact trivial | (first | exact arg_lit | exact arg_sl id id | exact arg_nil | exact arg_sl (by simp) id | exact arg_sl (by simp) (fun _ => rfl) | exact arg_row_m (by rfl) (by rfl) (fun _ => rfl) | exact arg_vw_m (by rfl) (by rfl) (fun _ => rfl) | exact arg_rn (by rfl) (by rfl) | exact arg_junk | exact arg_row_mm (by rfl) (by rfl) (fun _ => rfl)) | refine ⟨?_, ?_⟩)); done) | fail) (pfull _ (by assumption) (by assumption)) (hq := ?_))))) | (guard_target =~ (_ ∨ _) ∧ _; first | ((refine end_d [0] (by rw [Tryd.results50, Lf.res2]) (ale_2 ?_ ?_) ?_) <;> (try (first | exact ale_eq (by with_reducible rfl) | exact ale_full | exact ale_sl (fun _ => rfl) | exact ale_sl (by simp) | exact ale_junk | exact ale_eq rfl | exact stq (by with_reducible rfl) | exact stq (by rfl) | exact stq (by simp (disch := omega) only [go_sem, seval, ↓reduceIte, hU]))))) | (refine hK _ _ ?_; clear hK K))
    all_goals trace_state
  · obtain ⟨hor, hle⟩ := pwI_or (n := pwI b - 1) h1 h8 hf h0 h255 (by omega) (by omega)
    have hone := oneB_map (x := f + (pwI b - 1)) (by omega) (by omega)
    have hol1 := oneB_len (f + (pwI b - 1))
    rw [pfxP_ge hlt]
    rw [show f + pwI b - 1 = f + (pwI b - 1) from by omega]
    obtain ⟨tot, htot⟩ : ∃ l, oneB (f + (pwI b - 1)) ++ digF 4 (n - (pwI b - 1)) = l := ⟨_, rfl⟩
    rw [htot]
    refine acall_body Tryd.func50 rfl Tryd.ntmps50 (by simp) (fun hsc => ?_); simp only [Lf.enter, Nat.reduceAdd]; clear hsc
    have hU := And.intro @hand (@hor)
    repeat' (first | (guard_target =~ PWp _ _ _ _ _ _ _; first | (refine pwp_seq_k (fun K hK => ?_)) | (refine pwp_block ?_) | (refine pwp_rg_then ?_) | (refine pwp_skip ?_) | ((refine pwp_cond_d (fun hcd => ?_) (fun hcd => ?_)) <;> (try simp only [hcP] at hcd) <;> (try (exfalso; first | omega | exact absurd hcd (by assumption) | exact absurd (by assumption) hcd)))) | (guard_target =~ rg _ _ _ _ _ _ _; first | (guard_target =~ rg _ _ _ (⟨_, .move _, _, _, _, some _⟩ :: _) _ _ _; first | (refine rg_gtp rfl (h := ?_)) | (refine rg_gq rfl (h := ?_))) | (guard_target =~ rg _ _ _ (⟨_, .binOp _ _ _ _ _, _, _, _, some _⟩ :: _) _ _ _; first | (refine rg_gtp rfl (h := ?_)) | (refine rg_gq rfl (h := ?_))) | (guard_target =~ rg _ _ _ [] _ _ _; first | (refine rg_end ?_)) | (refine rg_a rfl (h := ?_)) | (refine rg_x rfl (hy := rfl) (h := ?_)) | (refine rg_v rfl (h := ?_)) | (refine rg_s rfl ?_)) | (guard_target =~ SOp _ _ _ _ _ _; first | (guard_target =~ SOp _ _ ⟨_, .buildSlice _ _ _, _, _, _, none⟩ _ _ _; first | (refine n_lit_r rfl (by (try simp (disch := omega) only [go_sem, seval, ↓reduceIte, hU]) <;> rfl) (by first | exact eo3 | exact eo4 | exact eo5 | exact eo22 | exact eo28 | fail) (by first | (simp (disch := omega) only [go_sem, seval, ↓reduceIte, hU]; done) | rfl) (by first | (simp (disch := omega) only [go_sem, seval, ↓reduceIte, hU]; done) | rfl) (by first | (simp (disch := omega) only [go_sem, seval, ↓reduceIte, hU]; done) | rfl) (by (try simp (disch := omega) only [go_sem, seval, ↓reduceIte, hU]) <;> rfl) (by (try simp (disch := omega) only [go_sem, seval, ↓reduceIte, hU]) <;> rfl) (by (try simp (disch := omega) only [go_sem, seval, ↓reduceIte, hU]) <;> rfl) (by first | (simp (disch := omega) only [go_sem, seval, ↓reduceIte, hU]; done) | rfl) (by (try simp (disch := omega) only [go_sem, seval, ↓reduceIte, hU]) <;> rfl) (by (try simp (disch := omega) only [go_sem, seval, ↓reduceIte, hU]) <;> rfl) (by (try simp (disch := omega) only [go_sem, seval, ↓reduceIte, hU]) <;> rfl) ?_)) | (guard_target =~ SOp _ _ ⟨_, .call ⟨.value (.func 73), _, _⟩, _, _, _, none⟩ _ _ _; first | (refine n_call (f := 73) rfl Tryd.call73 (h := AEq.pure' (by first | ((repeat' (first | exact trivial | (first | exact arg_lit | exact arg_sl id id | exact arg_nil | exact arg_sl (by simp) id | exact arg_sl (by simp) (fun _ => rfl) | exact arg_row_m (by rfl) (by rfl) (fun _ => rfl) | exact arg_vw_m (by rfl) (by rfl) (fun _ => rfl) | exact arg_rn (by rfl) (by rfl) | exact arg_junk | exact arg_row_mm (by rfl) (by rfl) (fun _ => rfl)) | refine ⟨?_, ?_⟩)); done) | fail) (pfull _ (by assumption) (by assumption)) (hq := ?_))))) | (refine hK _ _ ?_; clear hK K))
    refine pwp_loop_e [2, 10, 57, 58, 59, 60, 61, 62, 63, 64, 65, 66, 67] (fun s : List UInt8 × Nat × Int => [(10, .row 0 (s.1.length - 1)), (2, i64 s.2.2)]) (fun s => [.row (s.1.length - 1) 5 1 (s.1.map byteA)]) (fun s => s.2.1 ≤ 4 ∧ 0 ≤ s.2.2 ∧ s.2.2 ≤ 4294967295 ∧ s.2.2 < 128 ^ (s.2.1 + 1) ∧ s.1.length + s.2.1 = 5 ∧ s.1 ++ digF s.2.1 s.2.2 = tot) (fun s => s.2.1) (oneB (f + (pwI b - 1)), 4, n - (pwI b - 1)) ⟨Nat.le_refl _, by dsimp only; omega, by dsimp only; omega, by dsimp only; omega, by dsimp only; omega, htot⟩ ?_ (by dsimp only; rw [hone, hol1]) ?_
    · dsimp only
      rw [hol1]
      have hU := True.intro
      (refine ⟨⟨_, (by (try simp (disch := omega) only [go_sem, seval, ↓reduceIte, hU]) <;> rfl), ?_⟩, ⟨_, (by (try simp (disch := omega) only [go_sem, seval, ↓reduceIte, hU]) <;> rfl), ?_⟩, trivial⟩ <;> (try (first | exact ale_eq (by with_reducible rfl) | exact ale_full | exact ale_sl (fun _ => rfl) | exact ale_sl (by simp) | exact ale_junk | exact ale_eq rfl)))
      all_goals trace_state
    · rintro ⟨o, k, m⟩ ⟨hk, hm0, hm1, hm2, hol, hot⟩
      dsimp only at hk hm0 hm1 hm2 hol hot ⊢
      simp only [mask, List.map_cons, List.map_nil, List.cons_append, List.nil_append]
      by_cases hge : m < 128
      · rw [digF_lt hge] at hot
        have hon := oneB_map hm0 (by omega)
        have hapt : List.map byteA o ++ [[AV.lit (.int .u8 m)]] = List.map byteA tot := by rw [← hot, List.map_append, hon]
        have hln : tot.length - 1 = o.length - 1 + 1 := by rw [← hot, List.length_append, oneB_len]; omega
        have hU := @hapt
        repeat' (first | (guard_target =~ PWp _ _ _ _ _ _ _; first | (refine pwp_seq_k (fun K hK => ?_)) | (refine pwp_rg_then ?_) | (refine pwp_ret ?_) | (refine pwp_exit ?_) | ((refine pwp_cond_d (fun hcd => ?_) (fun hcd => ?_)) <;> (try simp only [hcP] at hcd) <;> (try (exfalso; first | omega | exact absurd hcd (by assumption) | exact absurd (by assumption) hcd)))) | (guard_target =~ rg _ _ _ _ _ _ _; first | (guard_target =~ rg _ _ _ [] _ _ _; first | (refine rg_end ?_)) | (refine rg_a rfl (h := ?_)) | (refine rg_v rfl (h := ?_)) | (refine rg_s rfl ?_)) | (guard_target =~ SOp _ _ _ _ _ _; first | (guard_target =~ SOp _ _ ⟨_, .buildSlice _ _ _, _, _, _, none⟩ _ _ _; first | (refine n_lit rfl (he := by first | exact eo3 | exact eo4 | exact eo5 | exact eo22 | exact eo28 | fail) (hK := ?_))) | (guard_target =~ SOp _ _ ⟨_, .call ⟨.builtin .append, _, _⟩, _, _, _, none⟩ _ _ _; first | (refine n_append_row rfl (he := by first | exact eo3 | exact eo4 | exact eo5 | exact eo22 | exact eo28 | fail) (hK := ?_)))) | (guard_target =~ (_ ∨ _) ∧ _; first | ((refine end_d [0] (by rw [Tryd.results50, Lf.res2]) (ale_2 ?_ ?_) ?_) <;> (try (first | exact ale_eq (by with_reducible rfl) | exact ale_full | exact ale_sl (fun _ => rfl) | exact ale_sl (by simp) | exact ale_junk | exact ale_eq rfl | exact stq (by with_reducible rfl) | exact stq (by rfl) | exact stq (by simp (disch := omega) only [go_sem, seval, ↓reduceIte, hU]))))) | (refine hK _ _ ?_; clear hK K) | (apply_assumption (exfalso := false) (symm := false)))
        all_goals first | exact ale_eq (by rw [hln]) | (rw [hln]; exact stq rfl) | trace_state
      · obtain ⟨k, rfl⟩ : ∃ j, k = j + 1 := ⟨k - 1, by
          cases k with
          | zero => simp at hm2; omega
          | succ k => rfl⟩
        rw [digF_ge hge, ← List.append_assoc] at hot
        rw [Int.pow_succ] at hm2
        have h127 : iand .i64 m 127 = m % 128 := by
          have := pwI_and (b := 7) (n := m) (by decide) (by decide) hm0 (by omega)
          rw [pwI_7] at this; exact this
        have h128 : ior .i64 (m % 128) 128 = 128 + m % 128 := by
          have := (pwI_or (b := 7) (f := 128) (n := m % 128) (by decide) (by decide) (by rw [pwI_7]; decide) (by decide) (by decide) (by omega) (by rw [pwI_7]; omega)).1
          rw [ior_comm]; exact this
        have hon := oneB_map (x := 128 + m % 128) (by omega) (by omega)
        have hapl : List.map byteA o ++ [[AV.lit (.int .u8 (128 + m % 128))]] = List.map byteA (o ++ oneB (128 + m % 128)) := by rw [List.map_append, hon]
        have hln : (o ++ oneB (128 + m % 128)).length = o.length + 1 := by rw [List.length_append, oneB_len]
        have hln2 : o.length - 1 + 1 = o.length + 1 - 1 := by omega
        have hU := And.intro @h127 ( And.intro @h128 (@hapl))
        repeat' (first | (guard_target =~ PWp _ _ _ _ _ _ _; first | (refine pwp_seq_k (fun K hK => ?_)) | (refine pwp_block ?_) | (refine pwp_rg_then ?_) | (refine pwp_rg ?_) | (refine pwp_skip ?_) | ((refine pwp_cond_d (fun hcd => ?_) (fun hcd => ?_)) <;> (try simp only [hcP] at hcd) <;> (try (exfalso; first | omega | exact absurd hcd (by assumption) | exact absurd (by assumption) hcd)))) | (guard_target =~ rg _ _ _ _ _ _ _; first | (guard_target =~ rg _ _ _ [] _ _ _; first | (refine rg_end ?_)) | (refine rg_a rfl (h := ?_)) | (refine rg_v rfl (h := ?_)) | (refine rg_s rfl ?_)) | (guard_target =~ SOp _ _ _ _ _ _; first | (guard_target =~ SOp _ _ ⟨_, .buildSlice _ _ _, _, _, _, none⟩ _ _ _; first | (refine n_lit rfl (he := by first | exact eo3 | exact eo4 | exact eo5 | exact eo22 | exact eo28 | fail) (hK := ?_))) | (guard_target =~ SOp _ _ ⟨_, .call ⟨.builtin .append, _, _⟩, _, _, _, none⟩ _ _ _; first | (refine n_append_row rfl (he := by first | exact eo3 | exact eo4 | exact eo5 | exact eo22 | exact eo28 | fail) (hK := ?_)))) | (refine hK _ _ ?_; clear hK K) | (dsimp only [Lf.thenQ, Lf.blockQ]))
        refine ⟨(o ++ oneB (128 + m % 128), k, m / 128), ⟨by dsimp only; omega, by dsimp only; omega, by dsimp only; omega, by dsimp only; omega, by dsimp only; rw [hln]; omega, hot⟩, by dsimp only; omega, ?_, (by repeat' (first | exact agr_refl | refine agr_cons (by rfl) ?_)), ?_⟩
        · dsimp only
          rw [hln, ← hln2]
          (refine ⟨⟨_, (by (try simp (disch := omega) only [go_sem, seval, ↓reduceIte, hU]) <;> rfl), ?_⟩, ⟨_, (by (try simp (disch := omega) only [go_sem, seval, ↓reduceIte, hU]) <;> rfl), ?_⟩, trivial⟩ <;> (try (first | exact ale_eq (by with_reducible rfl) | exact ale_full | exact ale_sl (fun _ => rfl) | exact ale_sl (by simp) | exact ale_junk | exact ale_eq rfl)))
          all_goals trace_state
        · dsimp only
          rw [hln, ← hln2]
          all_goals trace_state
end Go.Proofs.YtohbfcmmpaikhaaDoor

set_option linter.unusedVariables false
set_option linter.unusedSimpArgs false
namespace Go.Proofs.YtohbfcmmpaikhaaDoor
open Go Go.Lf Go.Proofs
attribute [local irreducible] Lf.rg Lf.ro Lf.PWp Lf.SOp Lf.ACall Lf.Scoped Lf.dg Lf.dw
set_option maxRecDepth 20000
set_option maxHeartbeats 4000000
theorem and127 : ∀ x : Fin 256, iand .u8 (x.val : Int) 127 = (x.val : Int) % 128 := by decide +kernel
def pgF (b : List UInt8) : Nat → Nat → Int → Int × Int × Int
 | 0, _, _ => (0, 0, 5)
 | k + 1, a, n => match b[a + 1]? with
  | none => (0, 0, 3)
  | some x => if (x.toNat : Int) < 128 then (if 2147483647 < n + (x.toNat : Int) % 128 * pwI (7 * (a : Int)) then (0, 0, 5) else (n + (x.toNat : Int) % 128 * pwI (7 * (a : Int)), (a : Int) + 2, 0)) else pgF b k (a + 1) (n + (x.toNat : Int) % 128 * pwI (7 * (a : Int)))
theorem pgF_0 {b : List UInt8} {a : Nat} {n : Int} : pgF b 0 a n = (0, 0, 5) := rfl
theorem pgF_none {b : List UInt8} {k a : Nat} {n : Int} (h : b[a + 1]? = none) : pgF b (k + 1) a n = (0, 0, 3) := by rw [pgF, h]
theorem pgF_big {b : List UInt8} {k a : Nat} {n : Int} {x : UInt8} (h : b[a + 1]? = some x) (h1 : (x.toNat : Int) < 128) (h2 : 2147483647 < n + (x.toNat : Int) % 128 * pwI (7 * (a : Int))) : pgF b (k + 1) a n = (0, 0, 5) := by
 rw [pgF, h]; dsimp only; rw [if_pos h1, if_pos h2]
theorem pgF_end {b : List UInt8} {k a : Nat} {n : Int} {x : UInt8} (h : b[a + 1]? = some x) (h1 : (x.toNat : Int) < 128) (h2 : ¬ 2147483647 < n + (x.toNat : Int) % 128 * pwI (7 * (a : Int))) : pgF b (k + 1) a n = (n + (x.toNat : Int) % 128 * pwI (7 * (a : Int)), (a : Int) + 2, 0) := by
 rw [pgF, h]; dsimp only; rw [if_pos h1, if_neg h2]
theorem pgF_more {b : List UInt8} {k a : Nat} {n : Int} {x : UInt8} (h : b[a + 1]? = some x) (h1 : ¬ (x.toNat : Int) < 128) : pgF b (k + 1) a n = pgF b k (a + 1) (n + (x.toNat : Int) % 128 * pwI (7 * (a : Int))) := by
 rw [pgF, h]; dsimp only; rw [if_neg h1]
def pgG (b : List UInt8) (c : Int) : Int × Int × Int := match b[0]? with
 | none => (0, 0, 3)
 | some x => if (x.toNat : Int) % pwI c < pwI c - 1 then ((x.toNat : Int) % pwI c, 1, 0) else pgF b 5 0 ((x.toNat : Int) % pwI c)
theorem pgG_none {b : List UInt8} {c : Int} (h : b[0]? = none) : pgG b c = (0, 0, 3) := by rw [pgG, h]
theorem pgG_lt {b : List UInt8} {c : Int} {x : UInt8} (h : b[0]? = some x) (h1 : (x.toNat : Int) % pwI c < pwI c - 1) : pgG b c = ((x.toNat : Int) % pwI c, 1, 0) := by rw [pgG, h]; dsimp only; rw [if_pos h1]
theorem pgG_ge {b : List UInt8} {c : Int} {x : UInt8} (h : b[0]? = some x) (h1 : ¬ (x.toNat : Int) % pwI c < pwI c - 1) : pgG b c = pgF b 5 0 ((x.toNat : Int) % pwI c) := by rw [pgG, h]; dsimp only; rw [if_neg h1]
theorem pw28 {a : Nat} (h : a ≤ 4) : 1 ≤ pwI (7 * (a : Int)) ∧ pwI (7 * (a : Int)) ≤ 268435456 := by
 obtain rfl | rfl | rfl | rfl | rfl : a = 0 ∨ a = 1 ∨ a = 2 ∨ a = 3 ∨ a = 4 := by omega
 all_goals decide
attribute [local irreducible] pwI pgF
theorem pget0 (f q : Bool) (b : List UInt8) (hb : b.length ≤ 1000000) (c : Int) (h1 : 1 ≤ c) (h8 : c ≤ 8) (rn rk re : Int) (htot : pgG b c = (rn, rk, re)) : AEq Tryd.prog 43 [.sl f q (b.map byteA), i64 c] [] (.tu [i64 rn, i64 rk, i64 re]) [] := by
 have hp := pwI_bd h1 h8
 by_cases hbe : b.length = 0
 ·have hb0 : b[0]? = none := List.getElem?_eq_none (by omega)
  rw [pgG_none hb0] at htot
  obtain ⟨rfl, rfl, rfl⟩ : rn = 0 ∧ rk = 0 ∧ re = 3 := by simp only [Prod.mk.injEq] at htot; omega
  refine acall_body Tryd.func43 rfl Tryd.ntmps43 (by simp) (fun hsc => ?_); simp only [Lf.enter, Nat.reduceAdd]; clear hsc
  have hU := True.intro
  repeat' (first | (guard_target =~ PWp _ _ _ _ _ _ _; first | (refine pwp_seq_k (fun K hK => ?_)) | (refine pwp_rg_then ?_)) | (guard_target =~ rg _ _ _ _ _ _ _; first | (guard_target =~ rg _ _ _ [] _ _ _; first | (refine rg_end ?_)) | (refine rg_a rfl (h := ?_))) | (refine hK _ _ ?_; clear hK K))
  refine pwp_scope_k (S := Unit) 0 (fun _ => []) (fun _ => []) (fun _ => False) (fun _ => 0) (by rfl) (fun s hs => absurd hs id) (fun _ => ?_)
  repeat' (first | (guard_target =~ PWp _ _ _ _ _ _ _; first | (refine pwp_seq_k (fun K hK => ?_)) | (refine pwp_block ?_) | (refine pwp_rg_then ?_) | (refine pwp_ret ?_) | ((refine pwp_cond_d (fun hcd => ?_) (fun hcd => ?_)) <;> (try simp only [hcP] at hcd) <;> (try (exfalso; first | omega | exact absurd hcd (by assumption) | exact absurd (by assumption) hcd)))) | (guard_target =~ rg _ _ _ _ _ _ _; first | (guard_target =~ rg _ _ _ [] _ _ _; first | (refine rg_end ?_)) | (refine rg_a rfl (h := ?_)) | (refine rg_x rfl (hy := rfl) (h := ?_)) | (refine rg_v rfl (h := ?_)) | (refine rg_s rfl ?_)) | (guard_target =~ SOp _ _ _ _ _ _; first | (guard_target =~ SOp _ _ ⟨_, .call ⟨.value (.func 73), _, _⟩, _, _, _, none⟩ _ _ _; first | (refine n_call (f := 73) rfl Tryd.call73 (h := AEq.pure' (by first | ((repeat' (first | exact trivial | (first | exact arg_lit | exact arg_sl id id | exact arg_nil | exact arg_sl (by simp) id | exact arg_sl (by simp) (fun _ => rfl) | exact arg_row_m (by rfl) (by rfl) (fun _ => rfl) | exact arg_vw_m (by rfl) (by rfl) (fun _ => rfl) | exact arg_rn (by rfl) (by rfl) | exact arg_junk | exact arg_row_mm (by rfl) (by rfl) (fun _ => rfl)) | refine ⟨?_, ?_⟩)); done) | fail) (pfull _ (by assumption) (by assumption)) (hq := ?_))))) | (guard_target =~ (_ ∨ _) ∧ _; first | ((refine end_d [] (by rw [Tryd.results43, Lf.res3]) (ale_3 ?_ ?_ ?_) ?_) <;> (try (first | exact ale_eq (by with_reducible rfl) | exact ale_full | exact ale_sl (fun _ => rfl) | exact ale_sl (by simp) | exact ale_junk | exact ale_eq rfl | exact stq (by with_reducible rfl) | exact stq (by rfl) | exact stq (by simp (disch := omega) only [go_sem, seval, ↓reduceIte, hU]))))) | (refine hK _ _ ?_; clear hK K))
  all_goals trace_state
 ·obtain ⟨x, hx⟩ := ex_at (l := b) (i := 0) (by omega)
  have hxl := x.toNat_lt
  have hand := pwI_and (n := (x.toNat : Int)) h1 h8 (by omega) (by omega)
  by_cases hlt : (x.toNat : Int) % pwI c < pwI c - 1
  ·rw [pgG_lt hx hlt] at htot
   obtain ⟨rfl, rfl, rfl⟩ : rn = (x.toNat : Int) % pwI c ∧ rk = 1 ∧ re = 0 := by simp only [Prod.mk.injEq] at htot; omega
   refine acall_body Tryd.func43 rfl Tryd.ntmps43 (by simp) (fun hsc => ?_); simp only [Lf.enter, Nat.reduceAdd]; clear hsc
   have hU := @hand
   repeat' (first | (guard_target =~ PWp _ _ _ _ _ _ _; first | (refine pwp_seq_k (fun K hK => ?_)) | (refine pwp_rg_then ?_)) | (guard_target =~ rg _ _ _ _ _ _ _; first | (guard_target =~ rg _ _ _ [] _ _ _; first | (refine rg_end ?_)) | (refine rg_a rfl (h := ?_))) | (refine hK _ _ ?_; clear hK K))
   refine pwp_scope_k (S := Unit) 0 (fun _ => []) (fun _ => []) (fun _ => False) (fun _ => 0) (by rfl) (fun s hs => absurd hs id) (fun _ => ?_)
   repeat' (first | (guard_target =~ PWp _ _ _ _ _ _ _; first | (refine pwp_seq_k (fun K hK => ?_)) | (refine pwp_block ?_) | (refine pwp_rg_then ?_) | (refine pwp_ret ?_) | (refine pwp_skip ?_) | ((refine pwp_cond_d (fun hcd => ?_) (fun hcd => ?_)) <;> (try simp only [hcP] at hcd) <;> (try (exfalso; first | omega | exact absurd hcd (by assumption) | exact absurd (by assumption) hcd)))) | (guard_target =~ rg _ _ _ _ _ _ _; first | (guard_target =~ rg _ _ _ [] _ _ _; first | (refine rg_end ?_)) | (refine rg_a rfl (h := ?_)) | (refine rg_x rfl (hy := rfl) (h := ?_)) | (refine rg_v rfl (h := ?_)) | (refine rg_s rfl ?_)) | (guard_target =~ SOp _ _ _ _ _ _; first | (guard_target =~ SOp _ _ ⟨_, .indexAddr _ _ _, _, _, _, none⟩ _ _ _; first | (refine n_index rfl (hK := ?_))) | (guard_target =~ SOp _ _ ⟨_, .call ⟨.value (.func 73), _, _⟩, _, _, _, none⟩ _ _ _; first | (refine n_call (f := 73) rfl Tryd.call73 (h := AEq.pure' (by first | ((repeat' (first | exact trivial | (first | exact arg_lit | exact arg_sl id id | exact arg_nil | exact arg_sl (by simp) id | exact arg_sl (by simp) (fun _ => rfl) | exact arg_row_m (by rfl) (by rfl) (fun _ => rfl) | exact arg_vw_m (by rfl) (by rfl) (fun _ => rfl) | exact arg_rn (by rfl) (by rfl) | exact arg_junk | exact arg_row_mm (by rfl) (by rfl) (fun _ => rfl)) | refine ⟨?_, ?_⟩)); done) | fail) (pfull _ (by assumption) (by assumption)) (hq := ?_))))) | (guard_target =~ (_ ∨ _) ∧ _; first | ((refine end_d [] (by rw [Tryd.results43, Lf.res3]) (ale_3 ?_ ?_ ?_) ?_) <;> (try (first | exact ale_eq (by with_reducible rfl) | exact ale_full | exact ale_sl (fun _ => rfl) | exact ale_sl (by simp) | exact ale_junk | exact ale_eq rfl | exact stq (by with_reducible rfl) | exact stq (by rfl) | exact stq (by simp (disch := omega) only [go_sem, seval, ↓reduceIte, hU]))))) | (refine hK _ _ ?_; clear hK K))
   all_goals trace_state
  ·rw [pgG_ge hx hlt] at htot
   have hm0 : 0 ≤ (x.toNat : Int) % pwI c := Int.emod_nonneg _ (by omega)
   have hm1 : (x.toNat : Int) % pwI c < pwI c := Int.emod_lt_of_pos _ (by omega)
   refine acall_body Tryd.func43 rfl Tryd.ntmps43 (by simp) (fun hsc => ?_); simp only [Lf.enter, Nat.reduceAdd]; clear hsc
   have hU := @hand
   repeat' (first | (guard_target =~ PWp _ _ _ _ _ _ _; first | (refine pwp_seq_k (fun K hK => ?_)) | (refine pwp_rg_then ?_)) | (guard_target =~ rg _ _ _ _ _ _ _; first | (guard_target =~ rg _ _ _ [] _ _ _; first | (refine rg_end ?_)) | (refine rg_a rfl (h := ?_))) | (refine hK _ _ ?_; clear hK K))
   refine pwp_scope_k (S := Nat × Int) 0 (fun s => [(0, .sl f q (b.map byteA)), (8, i64 s.1), (7, i64 s.2)]) (fun _ => []) (fun s => s.1 ≤ 5 ∧ s.1 + 1 ≤ b.length ∧ 0 ≤ s.2 ∧ s.2 ≤ 256 + 34359738368 * s.1 ∧ pgF b (5 - s.1) s.1 s.2 = (rn, rk, re)) (fun s => 5 - s.1) (by rfl) ?_ (fun hB => ?_)
   ·rintro ⟨a, n⟩ ⟨ha, hab, hn0, hn1, htt⟩
    dsimp only at ha hab hn0 hn1 htt ⊢
    by_cases ha5 : a = 5
    ·subst ha5
     rw [show 5 - 5 = 0 from rfl, pgF_0] at htt
     obtain ⟨rfl, rfl, rfl⟩ : rn = 0 ∧ rk = 0 ∧ re = 5 := by simp only [Prod.mk.injEq] at htt; omega
     have hU := True.intro
     repeat' (first | (guard_target =~ PWp _ _ _ _ _ _ _; first | (refine pwp_seq_k (fun K hK => ?_)) | (refine pwp_rg_then ?_) | (refine pwp_ret ?_) | ((refine pwp_cond_d (fun hcd => ?_) (fun hcd => ?_)) <;> (try simp only [hcP] at hcd) <;> (try (exfalso; first | omega | exact absurd hcd (by assumption) | exact absurd (by assumption) hcd)))) | (guard_target =~ rg _ _ _ _ _ _ _; first | (guard_target =~ rg _ _ _ [] _ _ _; first | (refine rg_end ?_)) | (refine rg_a rfl (h := ?_)) | (refine rg_v rfl (h := ?_))) | (guard_target =~ (_ ∨ _) ∧ _; first | ((refine end_d [] (by rw [Tryd.results43, Lf.res3]) (ale_3 ?_ ?_ ?_) ?_) <;> (try (first | exact ale_eq (by with_reducible rfl) | exact ale_full | exact ale_sl (fun _ => rfl) | exact ale_sl (by simp) | exact ale_junk | exact ale_eq rfl | exact stq (by with_reducible rfl) | exact stq (by rfl) | exact stq (by simp (disch := omega) only [go_sem, seval, ↓reduceIte, hU]))))) | (refine hK _ _ ?_; clear hK K))
     all_goals trace_state
    rw [show 5 - a = (5 - (a + 1)) + 1 from by omega] at htt
    by_cases hal : a + 1 = b.length
    ·rw [pgF_none (List.getElem?_eq_none (by omega))] at htt
     obtain ⟨rfl, rfl, rfl⟩ : rn = 0 ∧ rk = 0 ∧ re = 3 := by simp only [Prod.mk.injEq] at htt; omega
     have hU := True.intro
     repeat' (first | (guard_target =~ PWp _ _ _ _ _ _ _; first | (refine pwp_seq_k (fun K hK => ?_)) | (refine pwp_rg_then ?_) | (refine pwp_ret ?_) | (refine pwp_skip ?_) | ((refine pwp_cond_d (fun hcd => ?_) (fun hcd => ?_)) <;> (try simp only [hcP] at hcd) <;> (try (exfalso; first | omega | exact absurd hcd (by assumption) | exact absurd (by assumption) hcd)))) | (guard_target =~ rg _ _ _ _ _ _ _; first | (guard_target =~ rg _ _ _ [] _ _ _; first | (refine rg_end ?_)) | (refine rg_a rfl (h := ?_)) | (refine rg_v rfl (h := ?_))) | (guard_target =~ (_ ∨ _) ∧ _; first | ((refine end_d [] (by rw [Tryd.results43, Lf.res3]) (ale_3 ?_ ?_ ?_) ?_) <;> (try (first | exact ale_eq (by with_reducible rfl) | exact ale_full | exact ale_sl (fun _ => rfl) | exact ale_sl (by simp) | exact ale_junk | exact ale_eq rfl | exact stq (by with_reducible rfl) | exact stq (by rfl) | exact stq (by simp (disch := omega) only [go_sem, seval, ↓reduceIte, hU]))))) | (refine hK _ _ ?_; clear hK K))
     all_goals trace_state
    obtain ⟨y, hy⟩ := ex_at (l := b) (i := a + 1) (by omega)
    have hyl := y.toNat_lt
    have hpa := pw28 (a := a) (by omega)
    have h127 := and127 ⟨y.toNat, hyl⟩
    dsimp only at h127
    have hmul : 0 ≤ (y.toNat : Int) % 128 * pwI (7 * (a : Int)) ∧ (y.toNat : Int) % 128 * pwI (7 * (a : Int)) ≤ 127 * 268435456 := ⟨Int.mul_nonneg (by omega) (by omega), Int.mul_le_mul (by omega) hpa.2 (by omega) (by omega)⟩
    have hshl : IntKind.i64.wrap ((y.toNat : Int) % 128 * 2 ^ (7 * ((a : Int) + 1 - 1)).toNat) = (y.toNat : Int) % 128 * pwI (7 * (a : Int)) := by
     rw [Int.add_sub_cancel]
     have e : (2 : Int) ^ (7 * (a : Int)).toNat = pwI (7 * (a : Int)) := by unfold pwI; rfl
     rw [e, w64 (by omega)]
    generalize hv : (y.toNat : Int) % 128 * pwI (7 * (a : Int)) = v at *
    by_cases hlt2 : (y.toNat : Int) < 128
    ·by_cases hbig : 2147483647 < n + v
     ·rw [pgF_big hy hlt2 (by rw [hv]; exact hbig)] at htt
      obtain ⟨rfl, rfl, rfl⟩ : rn = 0 ∧ rk = 0 ∧ re = 5 := by simp only [Prod.mk.injEq] at htt; omega
      have hU := And.intro @h127 (@hshl)
      repeat' (first | (guard_target =~ PWp _ _ _ _ _ _ _; first | (refine pwp_seq_k (fun K hK => ?_)) | (refine pwp_rg_then ?_) | (refine pwp_ret ?_) | (refine pwp_skip ?_) | ((refine pwp_cond_d (fun hcd => ?_) (fun hcd => ?_)) <;> (try simp only [hcP] at hcd) <;> (try (exfalso; first | omega | exact absurd hcd (by assumption) | exact absurd (by assumption) hcd)))) | (guard_target =~ rg _ _ _ _ _ _ _; first | (guard_target =~ rg _ _ _ [] _ _ _; first | (refine rg_end ?_)) | (refine rg_a rfl (h := ?_)) | (refine rg_v rfl (h := ?_)) | (refine rg_s rfl ?_)) | (guard_target =~ SOp _ _ _ _ _ _; first | (guard_target =~ SOp _ _ ⟨_, .indexAddr _ _ _, _, _, _, none⟩ _ _ _; first | (refine n_index rfl (hK := ?_)))) | (guard_target =~ (_ ∨ _) ∧ _; first | ((refine end_d [] (by rw [Tryd.results43, Lf.res3]) (ale_3 ?_ ?_ ?_) ?_) <;> (try (first | exact ale_eq (by with_reducible rfl) | exact ale_full | exact ale_sl (fun _ => rfl) | exact ale_sl (by simp) | exact ale_junk | exact ale_eq rfl | exact stq (by with_reducible rfl) | exact stq (by rfl) | exact stq (by simp (disch := omega) only [go_sem, seval, ↓reduceIte, hU]))))) | (refine hK _ _ ?_; clear hK K))
      all_goals trace_state
     ·rw [pgF_end hy hlt2 (by rw [hv]; exact hbig), hv] at htt
      obtain ⟨rfl, rfl, rfl⟩ : rn = n + v ∧ rk = (a : Int) + 2 ∧ re = 0 := by simp only [Prod.mk.injEq] at htt; omega
      have hU := And.intro @h127 (@hshl)
      repeat' (first | (guard_target =~ PWp _ _ _ _ _ _ _; first | (refine pwp_seq_k (fun K hK => ?_)) | (refine pwp_rg_then ?_) | (refine pwp_ret ?_) | (refine pwp_skip ?_) | ((refine pwp_cond_d (fun hcd => ?_) (fun hcd => ?_)) <;> (try simp only [hcP] at hcd) <;> (try (exfalso; first | omega | exact absurd hcd (by assumption) | exact absurd (by assumption) hcd)))) | (guard_target =~ rg _ _ _ _ _ _ _; first | (guard_target =~ rg _ _ _ [] _ _ _; first | (refine rg_end ?_)) | (refine rg_a rfl (h := ?_)) | (refine rg_v rfl (h := ?_)) | (refine rg_s rfl ?_)) | (guard_target =~ SOp _ _ _ _ _ _; first | (guard_target =~ SOp _ _ ⟨_, .indexAddr _ _ _, _, _, _, none⟩ _ _ _; first | (refine n_index rfl (hK := ?_)))) | (guard_target =~ (_ ∨ _) ∧ _; first | ((refine end_d [] (by rw [Tryd.results43, Lf.res3]) (ale_3 ?_ ?_ ?_) ?_) <;> (try (first | exact ale_eq (by with_reducible rfl) | exact ale_full | exact ale_sl (fun _ => rfl) | exact ale_sl (by simp) | exact ale_junk | exact ale_eq rfl | exact stq (by with_reducible rfl) | exact stq (by rfl) | exact stq (by simp (disch := omega) only [go_sem, seval, ↓reduceIte, hU]))))) | (refine hK _ _ ?_; clear hK K))
      all_goals trace_state
    ·rw [pgF_more hy hlt2, hv] at htt
     have hU := And.intro @h127 (@hshl)
     repeat' (first | (guard_target =~ PWp _ _ _ _ _ _ _; first | (refine pwp_seq_k (fun K hK => ?_)) | (refine pwp_rg_then ?_) | (refine pwp_skip ?_) | ((refine pwp_cond_d (fun hcd => ?_) (fun hcd => ?_)) <;> (try simp only [hcP] at hcd) <;> (try (exfalso; first | omega | exact absurd hcd (by assumption) | exact absurd (by assumption) hcd))) | (refine pwp_goto ?_)) | (guard_target =~ rg _ _ _ _ _ _ _; first | (guard_target =~ rg _ _ _ [] _ _ _; first | (refine rg_end ?_)) | (refine rg_a rfl (h := ?_)) | (refine rg_v rfl (h := ?_)) | (refine rg_s rfl ?_)) | (guard_target =~ SOp _ _ _ _ _ _; first | (guard_target =~ SOp _ _ ⟨_, .indexAddr _ _ _, _, _, _, none⟩ _ _ _; first | (refine n_index rfl (hK := ?_)))) | (refine hK _ _ ?_; clear hK K) | (dsimp only [Lf.thenQ, Lf.blockQ]) | (dsimp only [jumpQ]) | (guard_target =~ (_ : Nat) = _ ∧ _; refine ⟨rfl, ?_⟩))
     refine ⟨(a + 1, n + v), [], ⟨by dsimp only; omega, by dsimp only; omega, by dsimp only; omega, by dsimp only; omega, htt⟩, by dsimp only; omega, rfl, ?_, ?_⟩
     ·have hU := True.intro
      (refine ⟨⟨_, (by (try simp (disch := omega) only [go_sem, seval, ↓reduceIte, hU]) <;> rfl), ?_⟩, ⟨_, (by (try simp (disch := omega) only [go_sem, seval, ↓reduceIte, hU]) <;> rfl), ?_⟩, ⟨_, (by (try simp (disch := omega) only [go_sem, seval, ↓reduceIte, hU]) <;> rfl), ?_⟩, trivial⟩ <;> (try (first | exact ale_eq (by with_reducible rfl) | exact ale_full | exact ale_sl (fun _ => rfl) | exact ale_sl (by simp) | exact ale_junk | exact ale_eq rfl)))
     ·rfl
   ·repeat' (first | (guard_target =~ PWp _ _ _ _ _ _ _; first | (refine pwp_seq_k (fun K hK => ?_)) | (refine pwp_block ?_) | (refine pwp_rg_then ?_) | (refine pwp_skip ?_) | ((refine pwp_cond_d (fun hcd => ?_) (fun hcd => ?_)) <;> (try simp only [hcP] at hcd) <;> (try (exfalso; first | omega | exact absurd hcd (by assumption) | exact absurd (by assumption) hcd)))) | (guard_target =~ rg _ _ _ _ _ _ _; first | (guard_target =~ rg _ _ _ [] _ _ _; first | (refine rg_end ?_)) | (refine rg_a rfl (h := ?_)) | (refine rg_x rfl (hy := rfl) (h := ?_)) | (refine rg_v rfl (h := ?_)) | (refine rg_s rfl ?_)) | (guard_target =~ SOp _ _ _ _ _ _; first | (guard_target =~ SOp _ _ ⟨_, .indexAddr _ _ _, _, _, _, none⟩ _ _ _; first | (refine n_index rfl (hK := ?_))) | (guard_target =~ SOp _ _ ⟨_, .call ⟨.value (.func 73), _, _⟩, _, _, _, none⟩ _ _ _; first | (refine n_call (f := 73) rfl Tryd.call73 (h := AEq.pure' (by first | ((repeat' (first | exact trivial | (first | exact arg_lit | exact arg_sl id id | exact arg_nil | exact arg_sl (by simp) id | exact arg_sl (by simp) (fun _ => rfl) | exact arg_row_m (by rfl) (by rfl) (fun _ => rfl) | exact arg_vw_m (by rfl) (by rfl) (fun _ => rfl) | exact arg_rn (by rfl) (by rfl) | exact arg_junk | exact arg_row_mm (by rfl) (by rfl) (fun _ => rfl)) | refine ⟨?_, ?_⟩)); done) | fail) (pfull _ (by assumption) (by assumption)) (hq := ?_))))) | (refine hK _ _ ?_; clear hK K))
    refine pwp_label ?_
    dsimp only [Lf.thenQ]
    refine hK _ _ ?_
    refine hB _ _ (0, (x.toNat : Int) % pwI c) [] ⟨by dsimp only; omega, by dsimp only; omega, hm0, by dsimp only; omega, htot⟩ rfl ?_ ?_
    ·have hU := True.intro
     (refine ⟨⟨_, (by (try simp (disch := omega) only [go_sem, seval, ↓reduceIte, hU]) <;> rfl), ?_⟩, ⟨_, (by (try simp (disch := omega) only [go_sem, seval, ↓reduceIte, hU]) <;> rfl), ?_⟩, ⟨_, (by (try simp (disch := omega) only [go_sem, seval, ↓reduceIte, hU]) <;> rfl), ?_⟩, trivial⟩ <;> (try (first | exact ale_eq (by with_reducible rfl) | exact ale_full | exact ale_sl (fun _ => rfl) | exact ale_sl (by simp) | exact ale_junk | exact ale_eq rfl)))
    ·rfl
theorem pget (f q : Bool) (b : List UInt8) (hb : b.length ≤ 1000000) (c : Int) (h1 : 1 ≤ c) (h8 : c ≤ 8) : AEq Tryd.prog 43 [.sl f q (b.map byteA), i64 c] [] (.tu [i64 (pgG b c).1, i64 (pgG b c).2.1, i64 (pgG b c).2.2]) [] := pget0 f q b hb c h1 h8 _ _ _ rfl
end Go.Proofs.YtohbfcmmpaikhaaDoor

