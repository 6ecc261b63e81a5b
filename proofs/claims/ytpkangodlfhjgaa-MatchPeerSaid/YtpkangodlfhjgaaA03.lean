import Derived.Test.YtpkangodlfhjgaaA02
set_option linter.unusedVariables false
set_option linter.unusedSimpArgs false
namespace Go.Proofs.Ytpkangodlfhjgaa
open Go Go.Lf Go.Proofs
attribute [local irreducible] Lf.rg Lf.ro Lf.PWp Lf.SOp Lf.ACall Lf.Scoped Lf.dg
set_option maxRecDepth 20000
set_option maxHeartbeats 4000000
def byteAt (n : Int) (k : Nat) : UInt8 := UInt8.ofNat (n / powB k % 256).toNat
def beB (n : Int) : Nat → List UInt8
  | 0 => []
  | k + 1 => byteAt n k :: beB n k
theorem beB_len (n : Int) : ∀ k, (beB n k).length = k
  | 0 => rfl
  | k + 1 => by simp [beB, beB_len n k]
theorem byteAt_nat (n : Int) (k : Nat) : ((byteAt n k).toNat : Int) = n / powB k % 256 := by
  have h1 := Int.emod_nonneg (n / powB k) (b := 256) (by decide)
  have h2 := Int.emod_lt_of_pos (n / powB k) (b := 256) (by decide)
  unfold byteAt
  rw [UInt8.toNat_ofNat']
  omega
theorem shr_byte (n : Int) (h0 : 0 ≤ n) (k : Nat) (hk : k ≤ 3) (a : Int) (ha : a = 8 * k) : IntKind.u8.wrap (n.fdiv (2 ^ a.toNat)) = ((byteAt n k).toNat : Int) := by
  rw [byteAt_nat]
  have e : ((2 : Int) ^ a.toNat) = powB k := by
    rcases (show k = 0 ∨ k = 1 ∨ k = 2 ∨ k = 3 by omega) with h | h | h | h <;> subst h <;> subst ha <;> rfl
  rw [e, Int.fdiv_eq_ediv_of_nonneg _ (by have := powB_bd k (by omega); omega)]
  have h1 := Int.emod_nonneg (n / powB k) (b := 256) (by decide)
  have h2 := Int.emod_lt_of_pos (n / powB k) (b := 256) (by decide)
  unfold IntKind.wrap
  simp [IntKind.bits, IntKind.signed]
theorem topN_lt (size : Int) (h1 : 1 ≤ size) (h2 : size ≤ 4) : topN size = powB size.toNat - 1 := by
  rcases (show size = 1 ∨ size = 2 ∨ size = 3 ∨ size = 4 by omega) with h | h | h | h <;> subst h <;> rfl
def putE (n size : Int) : Int := if okS size = false then 1 else if n < 0 ∨ topN size < n then 5 else 0
def putL (b : List UInt8) (n size : Int) : List UInt8 := if putE n size = 0 then b ++ beB n size.toNat else []
theorem put_arg (f q : Bool) (b : List UInt8) (n size : Int) (h : ¬ (1 ≤ size ∧ size ≤ 4)) : AEq Try.prog 96 [.sl f q (b.map byteA), i64 n, i64 size] [] (.tu [.sl false false (List.map byteA []), i64 1]) [] := by
  refine acall_body Try.func96 rfl Try.ntmps96 (by simp) (fun hsc => ?_); simp only [Lf.enter, Nat.reduceAdd]; clear hsc
  have hU := True.intro
  repeat' (first | (guard_target =~ PWp _ _ _ _ _ _ _; first | (refine pwp_seq_k (fun K hK => ?_)) | (refine pwp_block ?_) | (refine pwp_rg_then ?_) | (refine pwp_ret ?_) | ((refine pwp_cond_d (fun hcd => ?_) (fun hcd => ?_)) <;> (try simp only [hcP] at hcd) <;> (try (exfalso; first | omega | exact absurd hcd (by assumption) | exact absurd (by assumption) hcd)))) | (guard_target =~ rg _ _ _ _ _ _ _; first | (guard_target =~ rg _ _ _ [] _ _ _; first | (refine rg_end ?_)) | (refine rg_a rfl (h := ?_)) | (refine rg_x rfl (hy := rfl) (h := ?_)) | (refine rg_v rfl (h := ?_)) | (refine rg_s rfl ?_)) | (guard_target =~ SOp _ _ _ _ _ _; first | (guard_target =~ SOp _ _ ⟨_, .call ⟨.value (.func 103), _, _⟩, _, _, _, none⟩ _ _ _; first | (refine n_call (f := 103) rfl Try.call103 (h := AEq.pure' (hc := top_no _ (by assumption)) (hq := ?_))))) | (guard_target =~ (_ ∨ _) ∧ _; first | ((refine end_d [] (by rw [Try.results96, Lf.res2]) (ale_2 ?_ ?_) ?_) <;> (try (first | exact ale_eq (by with_reducible rfl) | exact ale_full | exact ale_sl (fun _ => rfl) | exact ale_sl (by simp) | exact ale_junk | exact ale_eq rfl | exact stq (by with_reducible rfl) | exact stq (by rfl) | exact stq (by simp (disch := omega) only [go_sem, seval, ↓reduceIte, hU]))))) | (refine hK _ _ ?_; clear hK K))
theorem put_range (f q : Bool) (b : List UInt8) (n size : Int) (h1 : 1 ≤ size) (h2 : size ≤ 4) (hn : n < 0 ∨ topN size < n) : AEq Try.prog 96 [.sl f q (b.map byteA), i64 n, i64 size] [] (.tu [.sl false false (List.map byteA []), i64 5]) [] := by
  obtain ⟨m, hm⟩ : ∃ m, m = topN size := ⟨_, rfl⟩
  have hm' := hm.symm
  rw [← hm] at hn
  refine acall_body Try.func96 rfl Try.ntmps96 (by simp) (fun hsc => ?_); simp only [Lf.enter, Nat.reduceAdd]; clear hsc
  have hU := @hm'
  repeat' (first | (guard_target =~ PWp _ _ _ _ _ _ _; first | (refine pwp_seq_k (fun K hK => ?_)) | (refine pwp_block ?_) | (refine pwp_rg_then ?_) | (refine pwp_ret ?_) | ((refine pwp_cond_d (fun hcd => ?_) (fun hcd => ?_)) <;> (try simp only [hcP] at hcd) <;> (try (exfalso; first | omega | exact absurd hcd (by assumption) | exact absurd (by assumption) hcd)))) | (guard_target =~ rg _ _ _ _ _ _ _; first | (guard_target =~ rg _ _ _ (⟨_, .move _, _, _, _, some _⟩ :: _) _ _ _; first | (refine rg_gq rfl (h := ?_))) | (guard_target =~ rg _ _ _ (⟨_, .binOp _ _ _ _ _, _, _, _, some _⟩ :: _) _ _ _; first | (refine rg_gq rfl (h := ?_))) | (guard_target =~ rg _ _ _ [] _ _ _; first | (refine rg_end ?_)) | (refine rg_a rfl (h := ?_)) | (refine rg_x rfl (hy := rfl) (h := ?_)) | (refine rg_v rfl (h := ?_)) | (refine rg_s rfl ?_)) | (guard_target =~ SOp _ _ _ _ _ _; first | (guard_target =~ SOp _ _ ⟨_, .call ⟨.value (.func 103), _, _⟩, _, _, _, none⟩ _ _ _; first | (refine n_call (f := 103) rfl Try.call103 (h := AEq.pure' (hc := top_yes _ (by assumption) (by assumption)) (hq := ?_))))) | (guard_target =~ (_ ∨ _) ∧ _; first | ((refine end_d [] (by rw [Try.results96, Lf.res2]) (ale_2 ?_ ?_) ?_) <;> (try (first | exact ale_eq (by with_reducible rfl) | exact ale_full | exact ale_sl (fun _ => rfl) | exact ale_sl (by simp) | exact ale_junk | exact ale_eq rfl | exact stq (by with_reducible rfl) | exact stq (by rfl) | exact stq (by simp (disch := omega) only [go_sem, seval, ↓reduceIte, hU]))))) | (refine hK _ _ ?_; clear hK K))
theorem put_yes (f q : Bool) (b : List UInt8) (n size : Int) (h1 : 1 ≤ size) (h2 : size ≤ 4) (h0 : 0 ≤ n) (hn : n ≤ topN size) (hb : b.length ≤ 1000000000) : AEq Try.prog 96 [.sl f q (b.map byteA), i64 n, i64 size] [] (.tu [.sl false false ((b ++ beB n size.toNat).map byteA), i64 0]) [] := by
  have hpn : (powB size.toNat : Int) ≤ 4294967296 := (powB_bd _ (by omega)).2
  have htl := topN_lt size h1 h2
  obtain ⟨m, hm⟩ : ∃ m, m = topN size := ⟨_, rfl⟩
  have hm' := hm.symm
  rw [← hm] at hn htl
  refine acall_body Try.func96 rfl Try.ntmps96 (by simp) (fun hsc => ?_); simp only [Lf.enter, Nat.reduceAdd]; clear hsc
  have hU := @hm'
  repeat' (first | (guard_target =~ PWp _ _ _ _ _ _ _; first | (refine pwp_seq_k (fun K hK => ?_)) | (refine pwp_block ?_) | (refine pwp_rg_then ?_) | (refine pwp_skip ?_) | ((refine pwp_cond_d (fun hcd => ?_) (fun hcd => ?_)) <;> (try simp only [hcP] at hcd) <;> (try (exfalso; first | omega | exact absurd hcd (by assumption) | exact absurd (by assumption) hcd)))) | (guard_target =~ rg _ _ _ _ _ _ _; first | (guard_target =~ rg _ _ _ (⟨_, .move _, _, _, _, some _⟩ :: _) _ _ _; first | (refine rg_gq rfl (h := ?_))) | (guard_target =~ rg _ _ _ (⟨_, .binOp _ _ _ _ _, _, _, _, some _⟩ :: _) _ _ _; first | (refine rg_gq rfl (h := ?_))) | (guard_target =~ rg _ _ _ [] _ _ _; first | (refine rg_end ?_)) | (refine rg_a rfl (h := ?_)) | (refine rg_x rfl (hy := rfl) (h := ?_)) | (refine rg_v rfl (h := ?_)) | (refine rg_s rfl ?_)) | (guard_target =~ SOp _ _ _ _ _ _; first | (guard_target =~ SOp _ _ ⟨_, .call ⟨.builtin .copy, _, _⟩, _, _, _, none⟩ _ _ _; first | (refine n_copy rfl (hK := ?_))) | (guard_target =~ SOp _ _ ⟨_, .makeSlice _ _ _, _, _, _, none⟩ _ _ _; first | (refine n_make rfl (he := by first | exact eo3 | exact eo4 | exact eo5 | exact eo22 | exact eo31 | exact eo133 | fail) (hK := ?_))) | (guard_target =~ SOp _ _ ⟨_, .call ⟨.value (.func 103), _, _⟩, _, _, _, none⟩ _ _ _; first | (refine n_call (f := 103) rfl Try.call103 (h := AEq.pure' (hc := top_yes _ (by assumption) (by assumption)) (hq := ?_))))) | (refine hK _ _ ?_; clear hK K))
  refine pwp_loop_e [10, 11, 40, 41, 42, 43, 44, 45, 46, 47, 48, 49, 50, 51] (fun s : Int × List UInt8 × Nat => [(10, .row 0 s.2.2), (11, i64 s.1)]) (fun s => [.row s.2.2 5 1 ((b ++ s.2.1).map byteA)])
    (fun s => ∃ k : Nat, s.1 = 8 * k ∧ k ≤ size.toNat ∧ s.2.1 ++ beB n k = beB n size.toNat) (fun s => s.1.toNat) (8 * size, [], 0) ⟨size.toNat, by simp; omega, Nat.le_refl _, rfl⟩ ?_ (by rw [List.append_nil]) ?_
  · (refine ⟨⟨_, (by (try simp (disch := omega) only [go_sem, seval, ↓reduceIte, hU]) <;> rfl), ?_⟩, ⟨_, (by (try simp (disch := omega) only [go_sem, seval, ↓reduceIte, hU]) <;> rfl), ?_⟩, trivial⟩ <;> (try (first | exact ale_eq (by with_reducible rfl) | exact ale_full | exact ale_sl (fun _ => rfl) | exact ale_sl (by simp) | exact ale_junk | exact ale_eq rfl)))
  · rintro ⟨a, l, s⟩ ⟨k, ha, hk, hl⟩
    simp only [mask, List.map_cons, List.map_nil, List.cons_append, List.nil_append]
    dsimp only at ha hl ⊢
    have hll : l.length + k = size.toNat := by have := congrArg List.length hl; simpa [beB_len] using this
    by_cases h0k : k = 0
    · subst h0k
      have hl' : l = beB n size.toNat := by simpa [beB] using hl
      subst hl'
      have hU := True.intro
      repeat' (first | (guard_target =~ PWp _ _ _ _ _ _ _; first | (refine pwp_seq_k (fun K hK => ?_)) | (refine pwp_rg_then ?_) | (refine pwp_ret ?_) | (refine pwp_exit ?_) | ((refine pwp_cond_d (fun hcd => ?_) (fun hcd => ?_)) <;> (try simp only [hcP] at hcd) <;> (try (exfalso; first | omega | exact absurd hcd (by assumption) | exact absurd (by assumption) hcd)))) | (guard_target =~ rg _ _ _ _ _ _ _; first | (guard_target =~ rg _ _ _ [] _ _ _; first | (refine rg_end ?_)) | (refine rg_a rfl (h := ?_)) | (refine rg_v rfl (h := ?_))) | (guard_target =~ (_ ∨ _) ∧ _; first | ((refine end_d [] (by rw [Try.results96, Lf.res2]) (ale_2 ?_ ?_) ?_) <;> (try (first | exact ale_eq (by with_reducible rfl) | exact ale_full | exact ale_sl (fun _ => rfl) | exact ale_sl (by simp) | exact ale_junk | exact ale_eq rfl | exact stq (by with_reducible rfl) | exact stq (by rfl) | exact stq (by simp (disch := omega) only [go_sem, seval, ↓reduceIte, hU]))))) | (refine hK _ _ ?_; clear hK K) | (apply_assumption (exfalso := false) (symm := false)))
    · obtain ⟨k', rfl⟩ : ∃ k', k = k' + 1 := ⟨k - 1, by omega⟩
      have hsb := shr_byte n h0 k' (by omega) (a - 8) (by omega)
      have hU := @hsb
      repeat' (first | (guard_target =~ PWp _ _ _ _ _ _ _; first | (refine pwp_seq_k (fun K hK => ?_)) | (refine pwp_block ?_) | (refine pwp_rg_then ?_) | (refine pwp_rg ?_) | (refine pwp_skip ?_) | ((refine pwp_cond_d (fun hcd => ?_) (fun hcd => ?_)) <;> (try simp only [hcP] at hcd) <;> (try (exfalso; first | omega | exact absurd hcd (by assumption) | exact absurd (by assumption) hcd)))) | (guard_target =~ rg _ _ _ _ _ _ _; first | (guard_target =~ rg _ _ _ [] _ _ _; first | (refine rg_end ?_)) | (refine rg_a rfl (h := ?_)) | (refine rg_v rfl (h := ?_)) | (refine rg_s rfl ?_)) | (guard_target =~ SOp _ _ _ _ _ _; first | (guard_target =~ SOp _ _ ⟨_, .buildSlice _ _ _, _, _, _, none⟩ _ _ _; first | (refine n_lit rfl (he := by first | exact eo3 | exact eo4 | exact eo5 | exact eo22 | exact eo31 | exact eo133 | fail) (hK := ?_))) | (guard_target =~ SOp _ _ ⟨_, .call ⟨.builtin .append, _, _⟩, _, _, _, none⟩ _ _ _; first | (refine n_append_row rfl (he := by first | exact eo3 | exact eo4 | exact eo5 | exact eo22 | exact eo31 | exact eo133 | fail) (hK := ?_)))) | (refine hK _ _ ?_; clear hK K) | (dsimp only [Lf.thenQ, Lf.blockQ]))
      refine ⟨(a - 8, l ++ [byteAt n k'], s + 1), ⟨k', by simp only []; omega, by omega, by simpa [beB] using hl⟩, by simp only []; omega, ?_, (by repeat' (first | exact agr_refl | refine agr_cons (by rfl) ?_)), by simp [byteA]⟩
      (refine ⟨⟨_, (by (try simp (disch := omega) only [go_sem, seval, ↓reduceIte, hU]) <;> rfl), ?_⟩, ⟨_, (by (try simp (disch := omega) only [go_sem, seval, ↓reduceIte, hU]) <;> rfl), ?_⟩, trivial⟩ <;> (try (first | exact ale_eq (by with_reducible rfl) | exact ale_full | exact ale_sl (fun _ => rfl) | exact ale_sl (by simp) | exact ale_junk | exact ale_eq rfl)))
theorem put_is (f q : Bool) (b : List UInt8) (n size : Int) (hb : b.length ≤ 1000000000) : AEq Try.prog 96 [.sl f q (b.map byteA), i64 n, i64 size] [] (.tu [.sl false false ((putL b n size).map byteA), i64 (putE n size)]) [] := by
  by_cases h : 1 ≤ size ∧ size ≤ 4
  · by_cases h2 : n < 0 ∨ topN size < n
    · have e : putE n size = 5 := by simp only [putE, okS_yes h]; rw [if_neg (by simp), if_pos h2]
      have e2 : putL b n size = [] := by simp [putL, e]
      rw [e, e2]; exact put_range f q b n size h.1 h.2 h2
    · have e : putE n size = 0 := by simp only [putE, okS_yes h]; rw [if_neg (by simp), if_neg h2]
      have e2 : putL b n size = b ++ beB n size.toNat := by simp [putL, e]
      rw [e, e2]; exact put_yes f q b n size h.1 h.2 (by omega) (by omega) hb
  · have e : putE n size = 1 := by simp [putE, okS_no h]
    have e2 : putL b n size = [] := by simp [putL, e]
    rw [e, e2]; exact put_arg f q b n size h
theorem byteAt_wrap (n : Int) (k : Nat) : IntKind.u8.wrap (n / powB k % 256) = ((byteAt n k).toNat : Int) := by
  rw [byteAt_nat]
  have h1 := Int.emod_nonneg (n / powB k) (b := 256) (by decide)
  have h2 := Int.emod_lt_of_pos (n / powB k) (b := 256) (by decide)
  exact wu8 (by omega)
theorem div_bd (n p : Int) (h : 0 ≤ n) (hp : 0 < p) : 0 ≤ n / p ∧ n / p ≤ n := ⟨Int.ediv_nonneg h (by omega), Int.ediv_le_self _ h⟩
theorem beB_get (n : Int) : ∀ (m i : Nat), i < m → (beB n m)[i]? = some (byteAt n (m - 1 - i))
  | 0, _, h => by omega
  | m + 1, 0, _ => rfl
  | m + 1, i + 1, h => by
    have := beB_get n m i (by omega)
    simp only [beB, List.getElem?_cons_succ, this]
    rw [show m + 1 - 1 - (i + 1) = m - 1 - i by omega]
theorem rput_arg (f q : Bool) (b : List UInt8) (n size : Int) (h : ¬ (1 ≤ size ∧ size ≤ 4)) : AEq Try.prog 82 [.sl f q (b.map byteA), i64 n, i64 size] [] (.tu [.sl false false (List.map byteA []), i64 1]) [] := by
  refine acall_body Try.func82 rfl Try.ntmps82 (by simp) (fun hsc => ?_); simp only [Lf.enter, Nat.reduceAdd]; clear hsc
  have hU := True.intro
  repeat' (first | (guard_target =~ PWp _ _ _ _ _ _ _; first | (refine pwp_seq_k (fun K hK => ?_)) | (refine pwp_rg_then ?_) | (refine pwp_ret ?_) | ((refine pwp_cond_d (fun hcd => ?_) (fun hcd => ?_)) <;> (try simp only [hcP] at hcd) <;> (try (exfalso; first | omega | exact absurd hcd (by assumption) | exact absurd (by assumption) hcd)))) | (guard_target =~ rg _ _ _ _ _ _ _; first | (guard_target =~ rg _ _ _ (⟨_, .move _, _, _, _, some _⟩ :: _) _ _ _; first | (refine rg_gq rfl (h := ?_))) | (guard_target =~ rg _ _ _ (⟨_, .binOp _ _ _ _ _, _, _, _, some _⟩ :: _) _ _ _; first | (refine rg_gq rfl (h := ?_))) | (guard_target =~ rg _ _ _ (⟨_, .call ⟨.value (.func 94), _, _⟩, _, _, _, some _⟩ :: _) _ _ _; first | (refine rg_gq rfl (h := ?_))) | (guard_target =~ rg _ _ _ [] _ _ _; first | (refine rg_end ?_)) | (refine rg_a rfl (h := ?_)) | (refine rg_v rfl (h := ?_))) | (guard_target =~ (_ ∨ _) ∧ _; first | ((refine end_d [] (by rw [Try.results82, Lf.res2]) (ale_2 ?_ ?_) ?_) <;> (try (first | exact ale_eq (by with_reducible rfl) | exact ale_full | exact ale_sl (fun _ => rfl) | exact ale_sl (by simp) | exact ale_junk | exact ale_eq rfl | exact stq (by with_reducible rfl) | exact stq (by rfl) | exact stq (by simp (disch := omega) only [go_sem, seval, ↓reduceIte, hU]))))) | (refine hK _ _ ?_; clear hK K))
theorem rput_range (f q : Bool) (b : List UInt8) (n size : Int) (h1 : 1 ≤ size) (h2 : size ≤ 4) (hn : n < 0 ∨ topN size < n) : AEq Try.prog 82 [.sl f q (b.map byteA), i64 n, i64 size] [] (.tu [.sl false false (List.map byteA []), i64 5]) [] := by
  have htl := topN_lt size h1 h2
  rw [htl] at hn
  have hpd := powB_bd size.toNat (by omega)
  refine acall_body Try.func82 rfl Try.ntmps82 (by simp) (fun hsc => ?_); simp only [Lf.enter, Nat.reduceAdd]; clear hsc
  have hU := True.intro
  repeat' (first | (guard_target =~ PWp _ _ _ _ _ _ _; first | (refine pwp_seq_k (fun K hK => ?_)) | (refine pwp_rg_then ?_) | (refine pwp_ret ?_) | (refine pwp_skip ?_) | ((refine pwp_cond_d (fun hcd => ?_) (fun hcd => ?_)) <;> (try simp only [hcP] at hcd) <;> (try (exfalso; first | omega | exact absurd hcd (by assumption) | exact absurd (by assumption) hcd)))) | (guard_target =~ rg _ _ _ _ _ _ _; first | (guard_target =~ rg _ _ _ (⟨_, .move _, _, _, _, some _⟩ :: _) _ _ _; first | (refine rg_gtv rfl (h := ?_)) | (refine rg_gf rfl (hn := rfl) (h := ?_)) | (refine rg_gq rfl (h := ?_)) | (refine rg_gt rfl (h := ?_)) | ((first | refine rg_case (by simp only [go_sem, seval, ↓reduceIte, hU] <;> rfl) (fun hcd => ?_) (fun hcd => ?_) | refine rg_case2 (by simp only [go_sem, seval, ↓reduceIte, hU] <;> rfl) (fun hcd => ?_) (fun hcd => ?_)) <;> (try simp only [hcd]) <;> (try (simp only [Bool.not_eq_true', Bool.not_eq_false'] at hcd; try simp only [hcd])) <;> (refine rg_w (Γ2 := _) (by repeat' (first | exact envw_nil | apply envw_cons | exact opens_t | exact opens_f | exact opens_r)) ?_) <;> (try simp only [hcP] at hcd) <;> (try (exfalso; first | omega | exact absurd hcd (by assumption) | exact absurd (by assumption) hcd)))) | (guard_target =~ rg _ _ _ (⟨_, .binOp _ _ _ _ _, _, _, _, some _⟩ :: _) _ _ _; first | (refine rg_gtv rfl (h := ?_)) | (refine rg_gf rfl (hn := rfl) (h := ?_)) | (refine rg_gq rfl (h := ?_)) | (refine rg_gt rfl (h := ?_)) | ((first | refine rg_case (by simp only [go_sem, seval, ↓reduceIte, hU] <;> rfl) (fun hcd => ?_) (fun hcd => ?_) | refine rg_case2 (by simp only [go_sem, seval, ↓reduceIte, hU] <;> rfl) (fun hcd => ?_) (fun hcd => ?_)) <;> (try simp only [hcd]) <;> (try (simp only [Bool.not_eq_true', Bool.not_eq_false'] at hcd; try simp only [hcd])) <;> (refine rg_w (Γ2 := _) (by repeat' (first | exact envw_nil | apply envw_cons | exact opens_t | exact opens_f | exact opens_r)) ?_) <;> (try simp only [hcP] at hcd) <;> (try (exfalso; first | omega | exact absurd hcd (by assumption) | exact absurd (by assumption) hcd)))) | (guard_target =~ rg _ _ _ (⟨_, .call ⟨.value (.func 94), _, _⟩, _, _, _, some _⟩ :: _) _ _ _; first | (refine rg_gtv rfl (h := ?_)) | (refine rg_gf rfl (hn := rfl) (h := ?_)) | (refine rg_gq rfl (h := ?_)) | (refine rg_gt rfl (h := ?_)) | ((first | refine rg_case (by simp only [go_sem, seval, ↓reduceIte, hU] <;> rfl) (fun hcd => ?_) (fun hcd => ?_) | refine rg_case2 (by simp only [go_sem, seval, ↓reduceIte, hU] <;> rfl) (fun hcd => ?_) (fun hcd => ?_)) <;> (try simp only [hcd]) <;> (try (simp only [Bool.not_eq_true', Bool.not_eq_false'] at hcd; try simp only [hcd])) <;> (refine rg_w (Γ2 := _) (by repeat' (first | exact envw_nil | apply envw_cons | exact opens_t | exact opens_f | exact opens_r)) ?_) <;> (try simp only [hcP] at hcd) <;> (try (exfalso; first | omega | exact absurd hcd (by assumption) | exact absurd (by assumption) hcd)))) | (guard_target =~ rg _ _ _ [] _ _ _; first | (refine rg_end ?_)) | (refine rg_a rfl (h := ?_)) | (refine rg_v rfl (h := ?_))) | (guard_target =~ SOp _ _ _ _ _ _; first | (guard_target =~ SOp _ _ ⟨_, .call ⟨.value (.func 94), _, _⟩, _, _, _, some _⟩ _ _ _; first | (refine n_call (f := 94) rfl Try.call94 (h := AEq.pure' (hc := power_int _ (by first | assumption | omega) (by first | assumption | omega)) (hq := ?_)))) | (guard_target =~ SOp _ _ ⟨_, .call ⟨.value (.func 94), _, _⟩, _, _, _, none⟩ _ _ _; first | (refine n_call (f := 94) rfl Try.call94 (h := AEq.pure' (hc := power_int _ (by first | assumption | omega) (by first | assumption | omega)) (hq := ?_))))) | (guard_target =~ (_ ∨ _) ∧ _; first | ((refine end_d [] (by rw [Try.results82, Lf.res2]) (ale_2 ?_ ?_) ?_) <;> (try (first | exact ale_eq (by with_reducible rfl) | exact ale_full | exact ale_sl (fun _ => rfl) | exact ale_sl (by simp) | exact ale_junk | exact ale_eq rfl | exact stq (by with_reducible rfl) | exact stq (by rfl) | exact stq (by simp (disch := omega) only [go_sem, seval, ↓reduceIte, hU]))))) | (refine hK _ _ ?_; clear hK K))
theorem rput_yes (f q : Bool) (b : List UInt8) (n size : Int) (h1 : 1 ≤ size) (h2 : size ≤ 4) (h0 : 0 ≤ n) (hn : n ≤ topN size) (hb : b.length ≤ 1000000000) : AEq Try.prog 82 [.sl f q (b.map byteA), i64 n, i64 size] [] (.tu [.sl false false ((b ++ beB n size.toNat).map byteA), i64 0]) [] := by
  have htl := topN_lt size h1 h2
  have hpd := powB_bd size.toNat (by omega)
  rw [htl] at hn
  refine acall_body Try.func82 rfl Try.ntmps82 (by simp) (fun hsc => ?_); simp only [Lf.enter, Nat.reduceAdd]; clear hsc
  have hU := True.intro
  repeat' (first | (guard_target =~ PWp _ _ _ _ _ _ _; first | (refine pwp_seq_k (fun K hK => ?_)) | (refine pwp_block ?_) | (refine pwp_rg_then ?_) | (refine pwp_skip ?_) | ((refine pwp_cond_d (fun hcd => ?_) (fun hcd => ?_)) <;> (try simp only [hcP] at hcd) <;> (try (exfalso; first | omega | exact absurd hcd (by assumption) | exact absurd (by assumption) hcd)))) | (guard_target =~ rg _ _ _ _ _ _ _; first | (guard_target =~ rg _ _ _ (⟨_, .move _, _, _, _, some _⟩ :: _) _ _ _; first | (refine rg_gtv rfl (h := ?_)) | (refine rg_gq rfl (h := ?_)) | (refine rg_gt rfl (h := ?_)) | ((first | refine rg_case (by simp only [go_sem, seval, ↓reduceIte, hU] <;> rfl) (fun hcd => ?_) (fun hcd => ?_) | refine rg_case2 (by simp only [go_sem, seval, ↓reduceIte, hU] <;> rfl) (fun hcd => ?_) (fun hcd => ?_)) <;> (try simp only [hcd]) <;> (try (simp only [Bool.not_eq_true', Bool.not_eq_false'] at hcd; try simp only [hcd])) <;> (refine rg_w (Γ2 := _) (by repeat' (first | exact envw_nil | apply envw_cons | exact opens_t | exact opens_f | exact opens_r)) ?_) <;> (try simp only [hcP] at hcd) <;> (try (exfalso; first | omega | exact absurd hcd (by assumption) | exact absurd (by assumption) hcd)))) | (guard_target =~ rg _ _ _ (⟨_, .binOp _ _ _ _ _, _, _, _, some _⟩ :: _) _ _ _; first | (refine rg_gtv rfl (h := ?_)) | (refine rg_gq rfl (h := ?_)) | (refine rg_gt rfl (h := ?_)) | ((first | refine rg_case (by simp only [go_sem, seval, ↓reduceIte, hU] <;> rfl) (fun hcd => ?_) (fun hcd => ?_) | refine rg_case2 (by simp only [go_sem, seval, ↓reduceIte, hU] <;> rfl) (fun hcd => ?_) (fun hcd => ?_)) <;> (try simp only [hcd]) <;> (try (simp only [Bool.not_eq_true', Bool.not_eq_false'] at hcd; try simp only [hcd])) <;> (refine rg_w (Γ2 := _) (by repeat' (first | exact envw_nil | apply envw_cons | exact opens_t | exact opens_f | exact opens_r)) ?_) <;> (try simp only [hcP] at hcd) <;> (try (exfalso; first | omega | exact absurd hcd (by assumption) | exact absurd (by assumption) hcd)))) | (guard_target =~ rg _ _ _ (⟨_, .call ⟨.value (.func 94), _, _⟩, _, _, _, some _⟩ :: _) _ _ _; first | (refine rg_gtv rfl (h := ?_)) | (refine rg_gq rfl (h := ?_)) | (refine rg_gt rfl (h := ?_)) | ((first | refine rg_case (by simp only [go_sem, seval, ↓reduceIte, hU] <;> rfl) (fun hcd => ?_) (fun hcd => ?_) | refine rg_case2 (by simp only [go_sem, seval, ↓reduceIte, hU] <;> rfl) (fun hcd => ?_) (fun hcd => ?_)) <;> (try simp only [hcd]) <;> (try (simp only [Bool.not_eq_true', Bool.not_eq_false'] at hcd; try simp only [hcd])) <;> (refine rg_w (Γ2 := _) (by repeat' (first | exact envw_nil | apply envw_cons | exact opens_t | exact opens_f | exact opens_r)) ?_) <;> (try simp only [hcP] at hcd) <;> (try (exfalso; first | omega | exact absurd hcd (by assumption) | exact absurd (by assumption) hcd)))) | (guard_target =~ rg _ _ _ [] _ _ _; first | (refine rg_end ?_)) | (refine rg_a rfl (h := ?_)) | (refine rg_v rfl (h := ?_)) | (refine rg_s rfl ?_)) | (guard_target =~ SOp _ _ _ _ _ _; first | (guard_target =~ SOp _ _ ⟨_, .call ⟨.builtin .append, _, _⟩, _, _, _, none⟩ _ _ _; first | (refine n_append_new rfl (he := by first | exact eo3 | exact eo4 | exact eo5 | exact eo22 | exact eo31 | fail) (hK := ?_))) | (guard_target =~ SOp _ _ ⟨_, .buildSlice _ _ _, _, _, _, none⟩ _ _ _; first | (refine n_lit rfl (he := by first | exact eo3 | exact eo4 | exact eo5 | exact eo22 | exact eo31 | fail) (hK := ?_))) | (guard_target =~ SOp _ _ ⟨_, .call ⟨.value (.func 94), _, _⟩, _, _, _, some _⟩ _ _ _; first | (refine n_call (f := 94) rfl Try.call94 (h := AEq.pure' (hc := power_int _ (by first | assumption | omega) (by first | assumption | omega)) (hq := ?_)))) | (guard_target =~ SOp _ _ ⟨_, .call ⟨.value (.func 94), _, _⟩, _, _, _, none⟩ _ _ _; first | (refine n_call (f := 94) rfl Try.call94 (h := AEq.pure' (hc := power_int _ (by first | assumption | omega) (by first | assumption | omega)) (hq := ?_))))) | (refine hK _ _ ?_; clear hK K))
  refine pwp_loop_e [8, 9, 27, 28, 29, 30, 31, 32, 33, 34, 35, 36, 37, 38, 39, 40, 41, 42, 43] (fun s : Nat × Nat => [(8, .row 0 s.2), (9, i64 s.1)]) (fun s => [.row s.2 5 1 ((b ++ (beB n size.toNat).take s.1).map byteA)])
    (fun s => s.1 ≤ size.toNat) (fun s => size.toNat - s.1) (0, 0) (Nat.zero_le _) ?_ (by simp) ?_
  · (refine ⟨⟨_, (by (try simp (disch := omega) only [go_sem, seval, ↓reduceIte, hU]) <;> rfl), ?_⟩, ⟨_, (by (try simp (disch := omega) only [go_sem, seval, ↓reduceIte, hU]) <;> rfl), ?_⟩, trivial⟩ <;> (try (first | exact ale_eq (by with_reducible rfl) | exact ale_full | exact ale_sl (fun _ => rfl) | exact ale_sl (by simp) | exact ale_junk | exact ale_eq rfl)))
  · rintro ⟨i, s⟩ hi
    simp only [mask, List.map_cons, List.map_nil, List.cons_append, List.nil_append]
    dsimp only at hi ⊢
    have hbl := beB_len n size.toNat
    by_cases hlt : i < size.toNat
    · have hp := powB_bd (size.toNat - 1 - i) (by omega)
      have hpn : (size - 1 - (i : Int)).toNat = size.toNat - 1 - i := by omega
      have hw := byteAt_wrap n (size.toNat - 1 - i)
      have hd := div_bd n (powB (size.toNat - 1 - i)) h0 (by omega)
      have hg := take_snoc (beB_get n size.toNat i hlt)
      have hU := And.intro @hpn (@hw)
      repeat' (first | (guard_target =~ PWp _ _ _ _ _ _ _; first | (refine pwp_seq_k (fun K hK => ?_)) | (refine pwp_block ?_) | (refine pwp_rg_then ?_) | (refine pwp_rg ?_) | (refine pwp_skip ?_) | ((refine pwp_cond_d (fun hcd => ?_) (fun hcd => ?_)) <;> (try simp only [hcP] at hcd) <;> (try (exfalso; first | omega | exact absurd hcd (by assumption) | exact absurd (by assumption) hcd)))) | (guard_target =~ rg _ _ _ _ _ _ _; first | (guard_target =~ rg _ _ _ [] _ _ _; first | (refine rg_end ?_)) | (refine rg_a rfl (h := ?_)) | (refine rg_v rfl (h := ?_)) | (refine rg_s rfl ?_)) | (guard_target =~ SOp _ _ _ _ _ _; first | (guard_target =~ SOp _ _ ⟨_, .call ⟨.builtin .append, _, _⟩, _, _, _, none⟩ _ _ _; first | (refine n_append_row rfl (he := by first | exact eo3 | exact eo4 | exact eo5 | exact eo22 | exact eo31 | fail) (hK := ?_))) | (guard_target =~ SOp _ _ ⟨_, .buildSlice _ _ _, _, _, _, none⟩ _ _ _; first | (refine n_lit rfl (he := by first | exact eo3 | exact eo4 | exact eo5 | exact eo22 | exact eo31 | fail) (hK := ?_))) | (guard_target =~ SOp _ _ ⟨_, .call ⟨.value (.func 94), _, _⟩, _, _, _, some _⟩ _ _ _; first | (refine n_call (f := 94) rfl Try.call94 (h := AEq.pure' (hc := power_int _ (by omega) (by omega)) (hq := ?_)))) | (guard_target =~ SOp _ _ ⟨_, .call ⟨.value (.func 94), _, _⟩, _, _, _, none⟩ _ _ _; first | (refine n_call (f := 94) rfl Try.call94 (h := AEq.pure' (hc := power_int _ (by omega) (by omega)) (hq := ?_))))) | (refine hK _ _ ?_; clear hK K))
      refine ⟨(i + 1, s + 1), by simp only []; omega, by simp only []; omega, ?_, (by repeat' (first | exact agr_refl | refine agr_cons (by rfl) ?_)), by simp [byteA, hg]⟩
      (refine ⟨⟨_, (by (try simp (disch := omega) only [go_sem, seval, ↓reduceIte, hU]) <;> rfl), ?_⟩, ⟨_, (by (try simp (disch := omega) only [go_sem, seval, ↓reduceIte, hU]) <;> rfl), ?_⟩, trivial⟩ <;> (try (first | exact ale_eq (by with_reducible rfl) | exact ale_full | exact ale_sl (fun _ => rfl) | exact ale_sl (by simp) | exact ale_junk | exact ale_eq rfl)))
    · have he : i = size.toNat := by omega
      subst he
      repeat' (first | (guard_target =~ PWp _ _ _ _ _ _ _; first | (refine pwp_seq_k (fun K hK => ?_)) | (refine pwp_rg_then ?_) | (refine pwp_ret ?_) | (refine pwp_exit ?_) | ((refine pwp_cond_d (fun hcd => ?_) (fun hcd => ?_)) <;> (try simp only [hcP] at hcd) <;> (try (exfalso; first | omega | exact absurd hcd (by assumption) | exact absurd (by assumption) hcd)))) | (guard_target =~ rg _ _ _ _ _ _ _; first | (guard_target =~ rg _ _ _ [] _ _ _; first | (refine rg_end ?_)) | (refine rg_a rfl (h := ?_)) | (refine rg_v rfl (h := ?_))) | (guard_target =~ (_ ∨ _) ∧ _; first | ((refine end_d [] (by rw [Try.results82, Lf.res2]) (ale_2 ?_ ?_) ?_) <;> (try (first | exact ale_eq (by with_reducible rfl) | exact ale_full | exact ale_sl (fun _ => rfl) | exact ale_sl (by simp) | exact ale_junk | exact ale_eq rfl | exact stq (by with_reducible rfl) | exact stq (by rfl) | exact stq (by simp (disch := omega) only [go_sem, seval, ↓reduceIte, hU]))))) | (refine hK _ _ ?_; clear hK K) | (apply_assumption (exfalso := false) (symm := false)))
      exact ale_eq (by rw [List.take_of_length_le (by omega)])
theorem rput_is (f q : Bool) (b : List UInt8) (n size : Int) (hb : b.length ≤ 1000000000) : AEq Try.prog 82 [.sl f q (b.map byteA), i64 n, i64 size] [] (.tu [.sl false false ((putL b n size).map byteA), i64 (putE n size)]) [] := by
  by_cases h : 1 ≤ size ∧ size ≤ 4
  · by_cases h2 : n < 0 ∨ topN size < n
    · have e : putE n size = 5 := by simp only [putE, okS_yes h]; rw [if_neg (by simp), if_pos h2]
      have e2 : putL b n size = [] := by simp [putL, e]
      rw [e, e2]; exact rput_range f q b n size h.1 h.2 h2
    · have e : putE n size = 0 := by simp only [putE, okS_yes h]; rw [if_neg (by simp), if_neg h2]
      have e2 : putL b n size = b ++ beB n size.toNat := by simp [putL, e]
      rw [e, e2]; exact rput_yes f q b n size h.1 h.2 (by omega) (by omega) hb
  · have e : putE n size = 1 := by simp [putE, okS_no h]
    have e2 : putL b n size = [] := by simp [putL, e]
    rw [e, e2]; exact rput_arg f q b n size h
end Go.Proofs.Ytpkangodlfhjgaa
