import Derived.Test.YtohbfcmmpaikhaaDoorZ01
import Derived.Test.YtohbfcmmpaikhaaDoorLc
set_option linter.unusedVariables false
set_option linter.unusedSimpArgs false
namespace Go.Proofs.YtohbfcmmpaikhaaDoor
open Go Go.Lf Go.Proofs
attribute [local irreducible] Lf.rg Lf.ro Lf.PWp Lf.SOp Lf.ACall Lf.Scoped Lf.dg Lf.dw
set_option maxRecDepth 20000
set_option maxHeartbeats 4000000
theorem div_bd5 (n p : Int) (h : 0 ≤ n) (hp : 0 < p) : 0 ≤ n / p ∧ n / p ≤ n := ⟨Int.ediv_nonneg h (by omega), Int.ediv_le_self _ h⟩
theorem rput05 (f : Bool) (l : List Int) (v n : Int) (hl : l.length ≤ 1000000000) : AEq Tryd.prog 106 [.sl f false (l.map intA), i64 v, i64 n] [] (.tu [.sl false false ((rpL l v n).map intA), i64 (rpE v n)]) [] := by
 by_cases hn : n < 0 ∨ 32 < n
 ·have h1 : rpE v n = 1 := if_pos hn
  have h2 : rpL l v n = l := by simp [rpL, h1]
  rw [h1, h2]
  refine acall_body Tryd.func106 rfl Tryd.ntmps106 (by simp) (fun hsc => ?_); simp only [Lf.enter, Nat.reduceAdd]; clear hsc
  have hU := True.intro
  repeat' (first | (guard_target =~ PWp _ _ _ _ _ _ _; first | (refine pwp_seq_k (fun K hK => ?_)) | (refine pwp_rg_then ?_) | (refine pwp_ret ?_) | ((refine pwp_cond_d (fun hcd => ?_) (fun hcd => ?_)) <;> (try simp only [hcP] at hcd) <;> (try exact cdT))) | (guard_target =~ rg _ _ _ _ _ _ _; first | (guard_target =~ rg _ _ _ (⟨_, .move _, _, _, _, some _⟩ :: _) _ _ _; first | (refine rg_gq rfl (h := ?_))) | (guard_target =~ rg _ _ _ (⟨_, .binOp _ _ _ _ _, _, _, _, some _⟩ :: _) _ _ _; first | (refine rg_gq rfl (h := ?_))) | (guard_target =~ rg _ _ _ (⟨_, .call ⟨.value (.func 128), _, _⟩, _, _, _, some _⟩ :: _) _ _ _; first | (refine rg_gq rfl (h := ?_))) | (guard_target =~ rg _ _ _ [] _ _ _; first | (refine rg_end ?_)) | (refine rg_a rfl (h := ?_)) | (refine rg_v rfl (h := ?_))) | (guard_target =~ (_ ∨ _) ∧ _; first | ((refine end_d [] (by rw [Tryd.results106, Lf.res2]) (ale_2 ?_ ?_) ?_) <;> (try (first | exact aleT | exact stq (by with_reducible rfl) | exact stq (by rfl) | exact stq (by simp (disch := omega) only [go_sem, seval, ↓reduceIte, hU]))))) | (refine hK _ _ ?_; clear hK K))
 have hp : (2 : Int) ^ n.toNat ≤ 4294967296 ∧ 1 ≤ (2 : Int) ^ n.toNat := by
  have h1 : 2 ^ n.toNat ≤ 2 ^ 32 := Nat.pow_le_pow_right (by decide) (by omega)
  have h2 : 0 < 2 ^ n.toNat := Nat.pow_pos (by decide)
  have e : (2 : Int) ^ n.toNat = ((2 ^ n.toNat : Nat) : Int) := by simp
  rw [e]; omega
 by_cases hv : v < 0 ∨ 2 ^ n.toNat ≤ v
 ·have h1 : rpE v n = 5 := by simp only [rpE]; rw [if_neg hn, if_pos hv]
  have h2 : rpL l v n = l := by simp [rpL, h1]
  rw [h1, h2]
  refine acall_body Tryd.func106 rfl Tryd.ntmps106 (by simp) (fun hsc => ?_); simp only [Lf.enter, Nat.reduceAdd]; clear hsc
  have hU := True.intro
  repeat' (first | (guard_target =~ PWp _ _ _ _ _ _ _; first | (refine pwp_seq_k (fun K hK => ?_)) | (refine pwp_rg_then ?_) | (refine pwp_ret ?_) | (refine pwp_skip ?_) | ((refine pwp_cond_d (fun hcd => ?_) (fun hcd => ?_)) <;> (try simp only [hcP] at hcd) <;> (try exact cdT))) | (guard_target =~ rg _ _ _ _ _ _ _; first | (guard_target =~ rg _ _ _ (⟨_, .move _, _, _, _, some _⟩ :: _) _ _ _; first | (refine rg_gtp rfl (h := ?_)) | (refine rg_gf rfl (hn := rfl) (h := ?_)) | (refine rg_gq rfl (h := ?_)) | (refine rg_gt rfl (h := ?_)) | ((first | refine rg_case (by simp only [go_sem, seval, ↓reduceIte, hU] <;> rfl) (fun hcd => ?_) (fun hcd => ?_) | refine rg_case2 (by simp only [go_sem, seval, ↓reduceIte, hU] <;> rfl) (fun hcd => ?_) (fun hcd => ?_)) <;> (try simp only [hcd]) <;> (try (simp only [Bool.not_eq_true', Bool.not_eq_false'] at hcd; try simp only [hcd])) <;> (refine rg_w (Γ2 := _) (by repeat' (first | exact envw_nil | apply envw_cons | exact opens_t | exact opens_f | exact opens_r)) ?_) <;> (try simp only [hcP] at hcd) <;> (try exact cdT))) | (guard_target =~ rg _ _ _ (⟨_, .binOp _ _ _ _ _, _, _, _, some _⟩ :: _) _ _ _; first | (refine rg_gtp rfl (h := ?_)) | (refine rg_gf rfl (hn := rfl) (h := ?_)) | (refine rg_gq rfl (h := ?_)) | (refine rg_gt rfl (h := ?_)) | ((first | refine rg_case (by simp only [go_sem, seval, ↓reduceIte, hU] <;> rfl) (fun hcd => ?_) (fun hcd => ?_) | refine rg_case2 (by simp only [go_sem, seval, ↓reduceIte, hU] <;> rfl) (fun hcd => ?_) (fun hcd => ?_)) <;> (try simp only [hcd]) <;> (try (simp only [Bool.not_eq_true', Bool.not_eq_false'] at hcd; try simp only [hcd])) <;> (refine rg_w (Γ2 := _) (by repeat' (first | exact envw_nil | apply envw_cons | exact opens_t | exact opens_f | exact opens_r)) ?_) <;> (try simp only [hcP] at hcd) <;> (try exact cdT))) | (guard_target =~ rg _ _ _ (⟨_, .call ⟨.value (.func 128), _, _⟩, _, _, _, some _⟩ :: _) _ _ _; first | (refine rg_gtp rfl (h := ?_)) | (refine rg_gf rfl (hn := rfl) (h := ?_)) | (refine rg_gq rfl (h := ?_)) | (refine rg_gt rfl (h := ?_)) | ((first | refine rg_case (by simp only [go_sem, seval, ↓reduceIte, hU] <;> rfl) (fun hcd => ?_) (fun hcd => ?_) | refine rg_case2 (by simp only [go_sem, seval, ↓reduceIte, hU] <;> rfl) (fun hcd => ?_) (fun hcd => ?_)) <;> (try simp only [hcd]) <;> (try (simp only [Bool.not_eq_true', Bool.not_eq_false'] at hcd; try simp only [hcd])) <;> (refine rg_w (Γ2 := _) (by repeat' (first | exact envw_nil | apply envw_cons | exact opens_t | exact opens_f | exact opens_r)) ?_) <;> (try simp only [hcP] at hcd) <;> (try exact cdT))) | (guard_target =~ rg _ _ _ [] _ _ _; first | (refine rg_end ?_)) | (refine rg_a rfl (h := ?_)) | (refine rg_v rfl (h := ?_))) | (guard_target =~ SOp _ _ _ _ _ _; first | (guard_target =~ SOp _ _ ⟨_, .call ⟨.value (.func 128), _, _⟩, _, _, _, some _⟩ _ _ _; first | (refine n_call (f := 128) rfl Tryd.call128 (h := AEq.pure' agT (rpow _ (by omega) (by omega)) (hq := ?_)))) | (guard_target =~ SOp _ _ ⟨_, .call ⟨.value (.func 128), _, _⟩, _, _, _, none⟩ _ _ _; first | (refine n_call (f := 128) rfl Tryd.call128 (h := AEq.pure' agT (rpow _ (by omega) (by omega)) (hq := ?_))))) | (guard_target =~ (_ ∨ _) ∧ _; first | ((refine end_d [] (by rw [Tryd.results106, Lf.res2]) (ale_2 ?_ ?_) ?_) <;> (try (first | exact aleT | exact stq (by with_reducible rfl) | exact stq (by rfl) | exact stq (by simp (disch := omega) only [go_sem, seval, ↓reduceIte, hU]))))) | (refine hK _ _ ?_; clear hK K))
 have h1 : rpE v n = 0 := by simp only [rpE]; rw [if_neg hn, if_neg hv]
 have h2 : rpL l v n = l ++ msb v n.toNat := by simp [rpL, h1]
 rw [h1, h2]
 generalize hM : l ++ msb v n.toNat = M
 refine acall_body Tryd.func106 rfl Tryd.ntmps106 (by simp) (fun hsc => ?_); simp only [Lf.enter, Nat.reduceAdd]; clear hsc
 have hU := True.intro
 repeat' (first | (guard_target =~ PWp _ _ _ _ _ _ _; first | (refine pwp_seq_k (fun K hK => ?_)) | (refine pwp_block ?_) | (refine pwp_rg_then ?_) | (refine pwp_skip ?_) | ((refine pwp_cond_d (fun hcd => ?_) (fun hcd => ?_)) <;> (try simp only [hcP] at hcd) <;> (try exact cdT))) | (guard_target =~ rg _ _ _ _ _ _ _; first | (guard_target =~ rg _ _ _ (⟨_, .move _, _, _, _, some _⟩ :: _) _ _ _; first | (refine rg_gtp rfl (h := ?_)) | (refine rg_gq rfl (h := ?_)) | (refine rg_gt rfl (h := ?_)) | ((first | refine rg_case (by simp only [go_sem, seval, ↓reduceIte, hU] <;> rfl) (fun hcd => ?_) (fun hcd => ?_) | refine rg_case2 (by simp only [go_sem, seval, ↓reduceIte, hU] <;> rfl) (fun hcd => ?_) (fun hcd => ?_)) <;> (try simp only [hcd]) <;> (try (simp only [Bool.not_eq_true', Bool.not_eq_false'] at hcd; try simp only [hcd])) <;> (refine rg_w (Γ2 := _) (by repeat' (first | exact envw_nil | apply envw_cons | exact opens_t | exact opens_f | exact opens_r)) ?_) <;> (try simp only [hcP] at hcd) <;> (try exact cdT))) | (guard_target =~ rg _ _ _ (⟨_, .binOp _ _ _ _ _, _, _, _, some _⟩ :: _) _ _ _; first | (refine rg_gtp rfl (h := ?_)) | (refine rg_gq rfl (h := ?_)) | (refine rg_gt rfl (h := ?_)) | ((first | refine rg_case (by simp only [go_sem, seval, ↓reduceIte, hU] <;> rfl) (fun hcd => ?_) (fun hcd => ?_) | refine rg_case2 (by simp only [go_sem, seval, ↓reduceIte, hU] <;> rfl) (fun hcd => ?_) (fun hcd => ?_)) <;> (try simp only [hcd]) <;> (try (simp only [Bool.not_eq_true', Bool.not_eq_false'] at hcd; try simp only [hcd])) <;> (refine rg_w (Γ2 := _) (by repeat' (first | exact envw_nil | apply envw_cons | exact opens_t | exact opens_f | exact opens_r)) ?_) <;> (try simp only [hcP] at hcd) <;> (try exact cdT))) | (guard_target =~ rg _ _ _ (⟨_, .call ⟨.value (.func 128), _, _⟩, _, _, _, some _⟩ :: _) _ _ _; first | (refine rg_gtp rfl (h := ?_)) | (refine rg_gq rfl (h := ?_)) | (refine rg_gt rfl (h := ?_)) | ((first | refine rg_case (by simp only [go_sem, seval, ↓reduceIte, hU] <;> rfl) (fun hcd => ?_) (fun hcd => ?_) | refine rg_case2 (by simp only [go_sem, seval, ↓reduceIte, hU] <;> rfl) (fun hcd => ?_) (fun hcd => ?_)) <;> (try simp only [hcd]) <;> (try (simp only [Bool.not_eq_true', Bool.not_eq_false'] at hcd; try simp only [hcd])) <;> (refine rg_w (Γ2 := _) (by repeat' (first | exact envw_nil | apply envw_cons | exact opens_t | exact opens_f | exact opens_r)) ?_) <;> (try simp only [hcP] at hcd) <;> (try exact cdT))) | (guard_target =~ rg _ _ _ [] _ _ _; first | (refine rg_end ?_)) | (refine rg_a rfl (h := ?_)) | (refine rg_v rfl (h := ?_)) | (refine rg_s rfl ?_)) | (guard_target =~ SOp _ _ _ _ _ _; first | (guard_target =~ SOp _ _ ⟨_, .call ⟨.builtin .append, _, _⟩, _, _, _, none⟩ _ _ _; first | (refine n_append_new rfl (he := by first | exact eo3 | exact eo4 | exact eo28 | exact eo53 | fail) (hK := ?_))) | (guard_target =~ SOp _ _ ⟨_, .buildSlice _ _ _, _, _, _, none⟩ _ _ _; first | (refine n_lit rfl (he := by first | exact eo3 | exact eo4 | exact eo28 | exact eo53 | fail) (hK := ?_))) | (guard_target =~ SOp _ _ ⟨_, .call ⟨.value (.func 128), _, _⟩, _, _, _, some _⟩ _ _ _; first | (refine n_call (f := 128) rfl Tryd.call128 (h := AEq.pure' agT (rpow _ (by omega) (by omega)) (hq := ?_)))) | (guard_target =~ SOp _ _ ⟨_, .call ⟨.value (.func 128), _, _⟩, _, _, _, none⟩ _ _ _; first | (refine n_call (f := 128) rfl Tryd.call128 (h := AEq.pure' agT (rpow _ (by omega) (by omega)) (hq := ?_))))) | (refine hK _ _ ?_; clear hK K))
 refine pwp_loop_e [8, 9, 31, 32, 33, 34, 35, 36, 37, 38, 39, 40, 41, 42] (fun s : List Int × Nat × Nat => [(8, .row 0 s.2.2), (9, i64 (s.2.1 - 1))]) (fun s => [.row s.2.2 3 1 (s.1.map intA)]) (fun s => s.1 ++ msb v s.2.1 = M ∧ s.2.1 ≤ 32 ∧ s.1.length + s.2.1 ≤ 1000000032) (fun s => s.2.1) (l, n.toNat, 0) ⟨hM, by dsimp only; omega, by dsimp only; omega⟩ ?_ (by first | rfl | (simp; done) | fail) ?_
 ·(refine ⟨⟨_, sT, ?_⟩, ⟨_, sT, ?_⟩, trivial⟩ <;> (try (first | exact aleT)))
  all_goals exact ale_i (by dsimp only; omega)
 ·rintro ⟨C, m, s⟩ ⟨hk, hm, hC⟩
  dsimp only at hk hm hC
  simp only [mask, List.map_cons, List.map_nil, List.cons_append, List.nil_append]
  cases m with
  | zero =>
   rw [msb, List.append_nil] at hk
   subst hk
   repeat' (first | (guard_target =~ PWp _ _ _ _ _ _ _; first | (refine pwp_seq_k (fun K hK => ?_)) | (refine pwp_rg_then ?_) | (refine pwp_ret ?_) | (refine pwp_exit ?_) | ((refine pwp_cond_d (fun hcd => ?_) (fun hcd => ?_)) <;> (try simp only [hcP] at hcd) <;> (try exact cdT))) | (guard_target =~ rg _ _ _ _ _ _ _; first | (guard_target =~ rg _ _ _ [] _ _ _; first | (refine rg_end ?_)) | (refine rg_a rfl (h := ?_)) | (refine rg_v rfl (h := ?_))) | (guard_target =~ (_ ∨ _) ∧ _; first | ((refine end_d [] (by rw [Tryd.results106, Lf.res2]) (ale_2 ?_ ?_) ?_) <;> (try (first | exact aleT | exact stq (by with_reducible rfl) | exact stq (by rfl) | exact stq (by simp (disch := omega) only [go_sem, seval, ↓reduceIte, hU]))))) | (refine hK _ _ ?_; clear hK K) | (apply_assumption (exfalso := false) (symm := false)))
  | succ m =>
   have hk2 : (C ++ [v / 2 ^ m % 2]) ++ msb v m = M := by rw [← hk]; simp [msb]
   have hl2 : (C ++ [v / 2 ^ m % 2]).length = C.length + 1 := by simp
   have hpm : (2 : Int) ^ m ≤ 4294967296 ∧ 1 ≤ (2 : Int) ^ m := by
    have h1 : 2 ^ m ≤ 2 ^ 32 := Nat.pow_le_pow_right (by decide) (by omega)
    have h2 : 0 < 2 ^ m := Nat.pow_pos (by decide)
    have e : (2 : Int) ^ m = ((2 ^ m : Nat) : Int) := by simp
    rw [e]; omega
   have hq := div_bd5 v (2 ^ m) (by omega) (by omega)
   have hmm : (((m + 1 : Nat) : Int) - 1).toNat = m := by omega
   have hU := @hmm
   repeat' (first | (guard_target =~ PWp _ _ _ _ _ _ _; first | (refine pwp_seq_k (fun K hK => ?_)) | (refine pwp_block ?_) | (refine pwp_rg_then ?_) | (refine pwp_rg ?_) | (refine pwp_skip ?_) | ((refine pwp_cond_d (fun hcd => ?_) (fun hcd => ?_)) <;> (try simp only [hcP] at hcd) <;> (try exact cdT))) | (guard_target =~ rg _ _ _ _ _ _ _; first | (guard_target =~ rg _ _ _ [] _ _ _; first | (refine rg_end ?_)) | (refine rg_a rfl (h := ?_)) | (refine rg_v rfl (h := ?_)) | (refine rg_s rfl ?_)) | (guard_target =~ SOp _ _ _ _ _ _; first | (guard_target =~ SOp _ _ ⟨_, .call ⟨.builtin .append, _, _⟩, _, _, _, none⟩ _ _ _; first | (refine n_append_row rfl (he := by first | exact eo3 | exact eo4 | exact eo28 | exact eo53 | fail) (hK := ?_))) | (guard_target =~ SOp _ _ ⟨_, .buildSlice _ _ _, _, _, _, none⟩ _ _ _; first | (refine n_lit rfl (he := by first | exact eo3 | exact eo4 | exact eo28 | exact eo53 | fail) (hK := ?_))) | (guard_target =~ SOp _ _ ⟨_, .call ⟨.value (.func 128), _, _⟩, _, _, _, some _⟩ _ _ _; first | (refine n_call (f := 128) rfl Tryd.call128 (h := AEq.pure' agT (rpow _ aoT aoT) (hq := ?_)))) | (guard_target =~ SOp _ _ ⟨_, .call ⟨.value (.func 128), _, _⟩, _, _, _, none⟩ _ _ _; first | (refine n_call (f := 128) rfl Tryd.call128 (h := AEq.pure' agT (rpow _ aoT aoT) (hq := ?_))))) | (refine hK _ _ ?_; clear hK K))
   refine ⟨(C ++ [v / 2 ^ m % 2], m, s + 1), ⟨hk2, by dsimp only; omega, by dsimp only; omega⟩, by dsimp only; omega, ?_, (by repeat' (first | exact agr_refl | refine agr_cons (by rfl) ?_)), by first | (simp [intA]; done) | fail⟩
   (refine ⟨⟨_, sT, ?_⟩, ⟨_, sT, ?_⟩, trivial⟩ <;> (try (first | exact aleT)))
   all_goals exact ale_i (by dsimp only; omega)
def packC (L : List Int) (n : Nat) : List UInt8 := (List.range n).map fun c => UInt8.ofNat (numBits (chunk L c)).toNat
theorem packC_snoc (L : List Int) (n : Nat) : packC L (n + 1) = packC L n ++ [UInt8.ofNat (numBits (chunk L n)).toNat] := by simp [packC, List.range_succ]
theorem chunk_get (L : List Int) (c k : Nat) (h : k < 8) : (chunk L c)[k]? = some (L.getD (8 * c + k) 1) := by
 simp only [chunk, List.getElem?_map]
 rw [List.getElem?_range h]; rfl
theorem chunk01 (L : List Int) (h : ∀ x ∈ L, x = 0 ∨ x = 1) (c : Nat) : ∀ x ∈ chunk L c, x = 0 ∨ x = 1 := by
 intro x hx
 simp only [chunk, List.mem_map, List.mem_range] at hx
 obtain ⟨k, _, rfl⟩ := hx
 rw [List.getD_eq_getElem?_getD]
 cases hg : L[8 * c + k]? with
 | none => exact .inr rfl
 | some y => exact h y (List.mem_of_getElem? hg)
theorem rbytes (f q : Bool) (l : List Int) (h01 : ∀ x ∈ l, x = 0 ∨ x = 1) (hl : l.length ≤ 1000000000) : AEq Tryd.prog 108 [.sl f q (l.map intA)] [] (.sl false false ((packL l).map byteA)) [] := by
 refine acall_body Tryd.func108 rfl Tryd.ntmps108 (by simp) (fun hsc => ?_); simp only [Lf.enter, Nat.reduceAdd]; clear hsc
 have hU := True.intro
 repeat' (first | (guard_target =~ PWp _ _ _ _ _ _ _; first | (refine pwp_seq_k (fun K hK => ?_)) | (refine pwp_block ?_) | (refine pwp_rg_then ?_)) | (guard_target =~ rg _ _ _ _ _ _ _; first | (guard_target =~ rg _ _ _ [] _ _ _; first | (refine rg_end ?_)) | (refine rg_a rfl (h := ?_))) | (refine hK _ _ ?_; clear hK K))
 refine pwp_row 3 5 1 (by decide) (by rfl) rfl rfl ?_
 refine pwp_loop_e [3, 4, 5, 6, 7, 8, 9, 10, 11, 12, 13, 14, 15, 16, 17, 18, 19, 20, 21, 22, 23, 24, 25, 26, 27, 28, 29, 30, 31, 32, 33, 34, 35, 36, 37, 38, 39] (fun s : Nat × Nat => [(3, .row 0 s.2), (4, i64 (8 * s.1))]) (fun s => [.row s.2 5 1 ((packC l s.1).map byteA)]) (fun s => s.1 ≤ (l.length + 7) / 8) (fun s => (l.length + 7) / 8 - s.1) (0, 0) (Nat.zero_le _) ?_ rfl ?_
 ·(refine ⟨⟨_, sT, ?_⟩, ⟨_, sT, ?_⟩, trivial⟩ <;> (try (first | exact aleT)))
 ·rintro ⟨c, s⟩ hc
  simp only [mask, List.map_cons, List.map_nil, List.cons_append, List.nil_append]
  dsimp only at hc ⊢
  by_cases hlt : 8 * c < l.length
  ·have hpl : (packC l c).length = c := by simp [packC]
   have hsn := packC_snoc l c
   have hc01 := chunk01 l h01 c
   have hcg := chunk_get l c
   have hcl : (chunk l c).length = 8 := by simp [chunk]
   have hfull := numBits_bd (chunk l c) hc01
   rw [hcl] at hfull
   repeat' (first | (guard_target =~ PWp _ _ _ _ _ _ _; first | (refine pwp_seq_k (fun K hK => ?_)) | (refine pwp_block ?_) | (refine pwp_rg_then ?_) | (refine pwp_skip ?_) | ((refine pwp_cond_d (fun hcd => ?_) (fun hcd => ?_)) <;> (try simp only [hcP] at hcd) <;> (try exact cdT))) | (guard_target =~ rg _ _ _ _ _ _ _; first | (guard_target =~ rg _ _ _ [] _ _ _; first | (refine rg_end ?_)) | (refine rg_a rfl (h := ?_)) | (refine rg_v rfl (h := ?_))) | (refine hK _ _ ?_; clear hK K))
   generalize packC l c = PC at *
   generalize hch : chunk l c = ch at *
   refine pwp_loop_e [5, 6, 13, 14, 15, 16, 17, 18, 19, 20, 21, 22, 23, 24, 25, 26, 27, 28, 29, 30, 31, 32, 33, 34] (fun k : Nat => [(5, i64 (numBits (ch.take k))), (6, i64 k)]) (fun _ => [.row s 5 1 (PC.map byteA)]) (fun k => k ≤ 8) (fun k => 8 - k) 0 (by omega) ?_ rfl ?_
   ·(refine ⟨⟨_, sT, ?_⟩, ⟨_, sT, ?_⟩, trivial⟩ <;> (try (first | exact aleT)))
   ·rintro k hk
    simp only [mask, List.map_cons, List.map_nil, List.cons_append, List.nil_append]
    have hbd := numBits_bd32 (ch.take k) (fun x hx => hc01 x (List.mem_of_mem_take hx)) (by rw [List.length_take]; omega)
    by_cases hk8 : k < 8
    ·have hg := hcg k hk8
     by_cases hin : 8 * c + k < l.length
     ·obtain ⟨x, hx⟩ : ∃ x, l[8 * c + k]? = some x := ⟨l[8 * c + k], List.getElem?_eq_getElem hin⟩
      rw [List.getD_eq_getElem?_getD, hx, Option.getD_some] at hg
      have hsn2 := numBits_snoc (ch.take k) x
      rw [← take_snoc hg] at hsn2
      have hx01 := h01 x (List.mem_of_getElem? hx)
      have hix : l[(8 * (c : Int) + (k : Int)).toNat]? = some x := by rw [show (8 * (c : Int) + (k : Int)).toNat = 8 * c + k from by omega]; exact hx
      repeat' (first | (guard_target =~ PWp _ _ _ _ _ _ _; first | (refine pwp_seq_k (fun K hK => ?_)) | (refine pwp_block ?_) | (refine pwp_rg_then ?_) | (refine pwp_rg ?_) | (refine pwp_skip ?_) | ((refine pwp_cond_d (fun hcd => ?_) (fun hcd => ?_)) <;> (try simp only [hcP] at hcd) <;> (try exact cdT))) | (guard_target =~ rg _ _ _ _ _ _ _; first | (guard_target =~ rg _ _ _ [] _ _ _; first | (refine rg_end ?_)) | (refine rg_a rfl (h := ?_)) | (refine rg_v rfl (h := ?_)) | (refine rg_s rfl ?_)) | (guard_target =~ SOp _ _ _ _ _ _; first | (guard_target =~ SOp _ _ ⟨_, .indexAddr _ _ _, _, _, _, none⟩ _ _ _; first | (refine n_index rfl (hK := ?_)))) | (refine hK _ _ ?_; clear hK K))
      refine ⟨k + 1, by omega, by omega, ?_, (by repeat' (first | exact agr_refl | refine agr_cons (by rfl) ?_)), (by first | rfl | (simp (disch := omega) only [go_sem, seval, ↓reduceIte, hU]; done) | (simp (disch := omega) only [go_sem, seval, ↓reduceIte, hU]; rfl))⟩
      (refine ⟨⟨_, sT, ?_⟩, ⟨_, sT, ?_⟩, trivial⟩ <;> (try (first | exact aleT)))
      all_goals exact ale_i (by first | exact hsn2.symm | omega)
     ·rw [List.getD_eq_getElem?_getD, List.getElem?_eq_none (Nat.not_lt.1 hin), Option.getD_none] at hg
      have hsn2 := numBits_snoc (ch.take k) 1
      rw [← take_snoc hg] at hsn2
      repeat' (first | (guard_target =~ PWp _ _ _ _ _ _ _; first | (refine pwp_seq_k (fun K hK => ?_)) | (refine pwp_block ?_) | (refine pwp_rg_then ?_) | (refine pwp_rg ?_) | (refine pwp_skip ?_) | ((refine pwp_cond_d (fun hcd => ?_) (fun hcd => ?_)) <;> (try simp only [hcP] at hcd) <;> (try exact cdT))) | (guard_target =~ rg _ _ _ _ _ _ _; first | (guard_target =~ rg _ _ _ [] _ _ _; first | (refine rg_end ?_)) | (refine rg_a rfl (h := ?_)) | (refine rg_v rfl (h := ?_))) | (refine hK _ _ ?_; clear hK K))
      refine ⟨k + 1, by omega, by omega, ?_, (by repeat' (first | exact agr_refl | refine agr_cons (by rfl) ?_)), (by first | rfl | (simp (disch := omega) only [go_sem, seval, ↓reduceIte, hU]; done) | (simp (disch := omega) only [go_sem, seval, ↓reduceIte, hU]; rfl))⟩
      (refine ⟨⟨_, sT, ?_⟩, ⟨_, sT, ?_⟩, trivial⟩ <;> (try (first | exact aleT)))
      all_goals exact ale_i (by first | exact hsn2.symm | omega)
    ·have h8 : k = 8 := by omega
     subst h8
     have hal : ch.take 8 = ch := List.take_of_length_le (by omega)
     rw [hal]
     have hbv : ((UInt8.ofNat (numBits ch).toNat).toNat : Int) = numBits ch := by rw [UInt8.toNat_ofNat_of_lt' (by simp; omega)]; omega
     repeat' (first | (guard_target =~ PWp _ _ _ _ _ _ _; first | (refine pwp_seq_k (fun K hK => ?_)) | (refine pwp_rg_then ?_) | (refine pwp_rg ?_) | (refine pwp_exit ?_) | ((refine pwp_cond_d (fun hcd => ?_) (fun hcd => ?_)) <;> (try simp only [hcP] at hcd) <;> (try exact cdT))) | (guard_target =~ rg _ _ _ _ _ _ _; first | (guard_target =~ rg _ _ _ [] _ _ _; first | (refine rg_end ?_)) | (refine rg_a rfl (h := ?_)) | (refine rg_v rfl (h := ?_)) | (refine rg_s rfl ?_)) | (guard_target =~ SOp _ _ _ _ _ _; first | (guard_target =~ SOp _ _ ⟨_, .call ⟨.builtin .append, _, _⟩, _, _, _, none⟩ _ _ _; first | (refine n_append_row rfl (he := by first | exact eo3 | exact eo4 | exact eo5 | exact eo22 | exact eo53 | fail) (hK := ?_))) | (guard_target =~ SOp _ _ ⟨_, .buildSlice _ _ _, _, _, _, none⟩ _ _ _; first | (refine n_lit rfl (he := by first | exact eo3 | exact eo4 | exact eo5 | exact eo22 | exact eo53 | fail) (hK := ?_)))) | (refine hK _ _ ?_; clear hK K) | (apply_assumption (exfalso := false) (symm := false)))
     refine ⟨(c + 1, s + 1), by dsimp only; omega, by dsimp only; omega, ?_, (by repeat' (first | exact agr_refl | refine agr_cons (by rfl) ?_)), by first | (dsimp only; rw [hsn]; simp only [List.map_append, List.map_cons, List.map_nil, byteA, hbv]; done) | fail⟩
     (refine ⟨⟨_, sT, ?_⟩, ⟨_, sT, ?_⟩, trivial⟩ <;> (try (first | exact aleT)))
     all_goals exact ale_i (by dsimp only; omega)
  ·repeat' (first | (guard_target =~ PWp _ _ _ _ _ _ _; first | (refine pwp_seq_k (fun K hK => ?_)) | (refine pwp_rg_then ?_) | (refine pwp_ret ?_) | (refine pwp_exit ?_) | ((refine pwp_cond_d (fun hcd => ?_) (fun hcd => ?_)) <;> (try simp only [hcP] at hcd) <;> (try exact cdT))) | (guard_target =~ rg _ _ _ _ _ _ _; first | (guard_target =~ rg _ _ _ [] _ _ _; first | (refine rg_end ?_)) | (refine rg_a rfl (h := ?_)) | (refine rg_v rfl (h := ?_))) | (guard_target =~ (_ ∨ _) ∧ _; first | ((refine end_d [] (by rw [Tryd.results108, Lf.res1]) (ale_1 ?_) ?_) <;> (try (first | exact aleT | exact stq (by with_reducible rfl) | exact stq (by rfl) | exact stq (by simp (disch := omega) only [go_sem, seval, ↓reduceIte, hU]))))) | (refine hK _ _ ?_; clear hK K) | (apply_assumption (exfalso := false) (symm := false)))
   exact ale_eq (by rw [show c = (l.length + 7) / 8 from by omega]; rfl)
end Go.Proofs.YtohbfcmmpaikhaaDoor

set_option linter.unusedVariables false
set_option linter.unusedSimpArgs false
namespace Go.Lf
open Go
end Go.Lf
namespace Go.Proofs.YtohbfcmmpaikhaaDoor
open Go Go.Lf Go.Proofs
attribute [local irreducible] Lf.rg Lf.ro Lf.PWp Lf.SOp Lf.ACall Lf.Scoped Lf.dg Lf.dw
set_option maxRecDepth 20000
set_option maxHeartbeats 4000000
def lenT : List UInt8 := [73, 83, 88, 88, 88, 88, 88, 88, 88, 84, 90, 88, 88, 90, 88, 88, 88, 88, 88, 88, 88, 88, 90, 88, 88, 88, 88, 88, 88, 88, 88, 88, 66, 70, 70, 72, 73, 66, 68, 71, 70, 70, 68, 71, 68, 66, 66, 66, 65, 65, 65, 66, 66, 66, 66, 66, 66, 66, 67, 68, 75, 66, 72, 70, 73, 66, 67, 67, 67, 67, 67, 67, 67, 67, 67, 67, 67, 67, 67, 67, 67, 67, 67, 67, 67, 67, 67, 67, 68, 67, 68, 73, 79, 73, 74, 66, 75, 65, 66, 65, 66, 65, 66, 66, 66, 65, 67, 67, 66, 66, 66, 65, 66, 67, 66, 65, 65, 66, 67, 67, 67, 67, 67, 75, 71, 74, 73, 88, 80, 82, 80, 80, 82, 82, 82, 83, 82, 83, 83, 83, 83, 83, 84, 83, 84, 84, 82, 83, 84, 83, 83, 83, 83, 81, 82, 83, 82, 83, 83, 84, 82, 81, 80, 82, 82, 83, 83, 81, 83, 82, 82, 84, 81, 82, 83, 83, 81, 81, 82, 81, 83, 82, 83, 83, 80, 82, 82, 82, 83, 82, 82, 83, 86, 86, 80, 79, 82, 83, 82, 85, 86, 86, 86, 87, 87, 86, 84, 85, 79, 81, 86, 87, 87, 86, 87, 84, 81, 81, 86, 86, 88, 87, 87, 87, 80, 84, 80, 81, 82, 81, 81, 83, 82, 82, 85, 85, 84, 84, 86, 83, 86, 87, 86, 86, 87, 87, 87, 87, 87, 88, 87, 87, 87, 87, 87, 86, 90]
theorem lenT_len : lenT.length = 257 := by decide +kernel
theorem lenT_bd : ∀ i : Fin 257, 65 ≤ (lenT.getD i.val 0).toNat ∧ (lenT.getD i.val 0).toNat ≤ 90 := by decide +kernel
def szI (s : Int) : Int := ((lenT.getD s.toNat 0).toNat : Int) - 60
theorem szI_bd {s : Int} (h0 : 0 ≤ s) (h1 : s ≤ 256) : 5 ≤ szI s ∧ szI s ≤ 30 := by
 have := lenT_bd ⟨s.toNat, by omega⟩
 unfold szI
 dsimp only at this
 omega
theorem lenT_ix {s : Int} (h0 : 0 ≤ s) (h1 : s ≤ 256) : aindex Tryd.prog 9 (.lit (.string ({ data := (((73 :: 83 :: 88 :: 88 :: 88 :: 88 :: 88 :: 88 :: 88 :: 84 :: 90 :: 88 :: 88 :: 90 :: 88 :: 88 :: 88 :: 88 :: 88 :: 88 :: 88 :: 88 :: 90 :: 88 :: 88 :: 88 :: 88 :: 88 :: 88 :: 88 :: 88 :: 88 :: 66 :: 70 :: 70 :: 72 :: 73 :: 66 :: 68 :: 71 :: 70 :: 70 :: 68 :: 71 :: 68 :: 66 :: 66 :: 66 :: 65 :: 65 :: 65 :: 66 :: 66 :: 66 :: 66 :: 66 :: 66 :: 66 :: 67 :: 68 :: 75 :: 66 :: 72 :: 70 :: []).append (73 :: 66 :: 67 :: 67 :: 67 :: 67 :: 67 :: 67 :: 67 :: 67 :: 67 :: 67 :: 67 :: 67 :: 67 :: 67 :: 67 :: 67 :: 67 :: 67 :: 67 :: 67 :: 67 :: 67 :: 68 :: 67 :: 68 :: 73 :: 79 :: 73 :: 74 :: 66 :: 75 :: 65 :: 66 :: 65 :: 66 :: 65 :: 66 :: 66 :: 66 :: 65 :: 67 :: 67 :: 66 :: 66 :: 66 :: 65 :: 66 :: 67 :: 66 :: 65 :: 65 :: 66 :: 67 :: 67 :: 67 :: 67 :: 67 :: 75 :: 71 :: 74 :: 73 :: 88 :: [])).append ((80 :: 82 :: 80 :: 80 :: 82 :: 82 :: 82 :: 83 :: 82 :: 83 :: 83 :: 83 :: 83 :: 83 :: 84 :: 83 :: 84 :: 84 :: 82 :: 83 :: 84 :: 83 :: 83 :: 83 :: 83 :: 81 :: 82 :: 83 :: 82 :: 83 :: 83 :: 84 :: 82 :: 81 :: 80 :: 82 :: 82 :: 83 :: 83 :: 81 :: 83 :: 82 :: 82 :: 84 :: 81 :: 82 :: 83 :: 83 :: 81 :: 81 :: 82 :: 81 :: 83 :: 82 :: 83 :: 83 :: 80 :: 82 :: 82 :: 82 :: 83 :: 82 :: 82 :: 83 :: []).append ((86 :: 86 :: 80 :: 79 :: 82 :: 83 :: 82 :: 85 :: 86 :: 86 :: 86 :: 87 :: 87 :: 86 :: 84 :: 85 :: 79 :: 81 :: 86 :: 87 :: 87 :: 86 :: 87 :: 84 :: 81 :: 81 :: 86 :: 86 :: 88 :: 87 :: 87 :: 87 :: []).append (80 :: 84 :: 80 :: 81 :: 82 :: 81 :: 81 :: 83 :: 82 :: 82 :: 85 :: 85 :: 84 :: 84 :: 86 :: 83 :: 86 :: 87 :: 86 :: 86 :: 87 :: 87 :: 87 :: 87 :: 87 :: 88 :: 87 :: 87 :: 87 :: 87 :: 87 :: 86 :: 90 :: [])))).toArray }))) (.lit (.int .i64 s)) = some (.lit (.int .u8 ((lenT.getD s.toNat 0).toNat : Nat))) := by
 have hd : ({ data := (((73 :: 83 :: 88 :: 88 :: 88 :: 88 :: 88 :: 88 :: 88 :: 84 :: 90 :: 88 :: 88 :: 90 :: 88 :: 88 :: 88 :: 88 :: 88 :: 88 :: 88 :: 88 :: 90 :: 88 :: 88 :: 88 :: 88 :: 88 :: 88 :: 88 :: 88 :: 88 :: 66 :: 70 :: 70 :: 72 :: 73 :: 66 :: 68 :: 71 :: 70 :: 70 :: 68 :: 71 :: 68 :: 66 :: 66 :: 66 :: 65 :: 65 :: 65 :: 66 :: 66 :: 66 :: 66 :: 66 :: 66 :: 66 :: 67 :: 68 :: 75 :: 66 :: 72 :: 70 :: []).append (73 :: 66 :: 67 :: 67 :: 67 :: 67 :: 67 :: 67 :: 67 :: 67 :: 67 :: 67 :: 67 :: 67 :: 67 :: 67 :: 67 :: 67 :: 67 :: 67 :: 67 :: 67 :: 67 :: 67 :: 68 :: 67 :: 68 :: 73 :: 79 :: 73 :: 74 :: 66 :: 75 :: 65 :: 66 :: 65 :: 66 :: 65 :: 66 :: 66 :: 66 :: 65 :: 67 :: 67 :: 66 :: 66 :: 66 :: 65 :: 66 :: 67 :: 66 :: 65 :: 65 :: 66 :: 67 :: 67 :: 67 :: 67 :: 67 :: 75 :: 71 :: 74 :: 73 :: 88 :: [])).append ((80 :: 82 :: 80 :: 80 :: 82 :: 82 :: 82 :: 83 :: 82 :: 83 :: 83 :: 83 :: 83 :: 83 :: 84 :: 83 :: 84 :: 84 :: 82 :: 83 :: 84 :: 83 :: 83 :: 83 :: 83 :: 81 :: 82 :: 83 :: 82 :: 83 :: 83 :: 84 :: 82 :: 81 :: 80 :: 82 :: 82 :: 83 :: 83 :: 81 :: 83 :: 82 :: 82 :: 84 :: 81 :: 82 :: 83 :: 83 :: 81 :: 81 :: 82 :: 81 :: 83 :: 82 :: 83 :: 83 :: 80 :: 82 :: 82 :: 82 :: 83 :: 82 :: 82 :: 83 :: []).append ((86 :: 86 :: 80 :: 79 :: 82 :: 83 :: 82 :: 85 :: 86 :: 86 :: 86 :: 87 :: 87 :: 86 :: 84 :: 85 :: 79 :: 81 :: 86 :: 87 :: 87 :: 86 :: 87 :: 84 :: 81 :: 81 :: 86 :: 86 :: 88 :: 87 :: 87 :: 87 :: []).append (80 :: 84 :: 80 :: 81 :: 82 :: 81 :: 81 :: 83 :: 82 :: 82 :: 85 :: 85 :: 84 :: 84 :: 86 :: 83 :: 86 :: 87 :: 86 :: 86 :: 87 :: 87 :: 87 :: 87 :: 87 :: 88 :: 87 :: 87 :: 87 :: 87 :: 87 :: 86 :: 90 :: [])))).toArray } : ByteArray).data = lenT.toArray := by kernel_rfl
 generalize ({ data := (((73 :: 83 :: 88 :: 88 :: 88 :: 88 :: 88 :: 88 :: 88 :: 84 :: 90 :: 88 :: 88 :: 90 :: 88 :: 88 :: 88 :: 88 :: 88 :: 88 :: 88 :: 88 :: 90 :: 88 :: 88 :: 88 :: 88 :: 88 :: 88 :: 88 :: 88 :: 88 :: 66 :: 70 :: 70 :: 72 :: 73 :: 66 :: 68 :: 71 :: 70 :: 70 :: 68 :: 71 :: 68 :: 66 :: 66 :: 66 :: 65 :: 65 :: 65 :: 66 :: 66 :: 66 :: 66 :: 66 :: 66 :: 66 :: 67 :: 68 :: 75 :: 66 :: 72 :: 70 :: []).append (73 :: 66 :: 67 :: 67 :: 67 :: 67 :: 67 :: 67 :: 67 :: 67 :: 67 :: 67 :: 67 :: 67 :: 67 :: 67 :: 67 :: 67 :: 67 :: 67 :: 67 :: 67 :: 67 :: 67 :: 68 :: 67 :: 68 :: 73 :: 79 :: 73 :: 74 :: 66 :: 75 :: 65 :: 66 :: 65 :: 66 :: 65 :: 66 :: 66 :: 66 :: 65 :: 67 :: 67 :: 66 :: 66 :: 66 :: 65 :: 66 :: 67 :: 66 :: 65 :: 65 :: 66 :: 67 :: 67 :: 67 :: 67 :: 67 :: 75 :: 71 :: 74 :: 73 :: 88 :: [])).append ((80 :: 82 :: 80 :: 80 :: 82 :: 82 :: 82 :: 83 :: 82 :: 83 :: 83 :: 83 :: 83 :: 83 :: 84 :: 83 :: 84 :: 84 :: 82 :: 83 :: 84 :: 83 :: 83 :: 83 :: 83 :: 81 :: 82 :: 83 :: 82 :: 83 :: 83 :: 84 :: 82 :: 81 :: 80 :: 82 :: 82 :: 83 :: 83 :: 81 :: 83 :: 82 :: 82 :: 84 :: 81 :: 82 :: 83 :: 83 :: 81 :: 81 :: 82 :: 81 :: 83 :: 82 :: 83 :: 83 :: 80 :: 82 :: 82 :: 82 :: 83 :: 82 :: 82 :: 83 :: []).append ((86 :: 86 :: 80 :: 79 :: 82 :: 83 :: 82 :: 85 :: 86 :: 86 :: 86 :: 87 :: 87 :: 86 :: 84 :: 85 :: 79 :: 81 :: 86 :: 87 :: 87 :: 86 :: 87 :: 84 :: 81 :: 81 :: 86 :: 86 :: 88 :: 87 :: 87 :: 87 :: []).append (80 :: 84 :: 80 :: 81 :: 82 :: 81 :: 81 :: 83 :: 82 :: 82 :: 85 :: 85 :: 84 :: 84 :: 86 :: 83 :: 86 :: 87 :: 86 :: 86 :: 87 :: 87 :: 87 :: 87 :: 87 :: 88 :: 87 :: 87 :: 87 :: 87 :: 87 :: 86 :: 90 :: [])))).toArray } : ByteArray) = str at hd ⊢
 unfold aindex
 rw [show Tryd.prog.underlying 9 = some .string from by rfl]
 dsimp only
 have hs : str.size = lenT.length := by rw [show str.size = str.data.size from rfl, hd]; simp
 have hj : s.toNat < lenT.length := by rw [lenT_len]; omega
 rw [if_pos ⟨h0, by rw [hs, lenT_len]; omega⟩, hd]
 congr 4
 simp [Array.getD, List.getD, hj]
theorem csize (s : Int) (h0 : 0 ≤ s) (h1 : s ≤ 256) : AEq Tryd.prog 121 [i64 s] [] (i64 (szI s)) [] := by
 have hb := lenT_bd ⟨s.toNat, by omega⟩
 dsimp only at hb
 have hsz : szI s = ((lenT.getD s.toNat 0).toNat : Int) - 60 := rfl
 rw [hsz]
 have hix := lenT_ix h0 h1
 obtain ⟨x, hx⟩ : ∃ x, lenT.getD s.toNat 0 = x := ⟨_, rfl⟩
 rw [hx] at hb hix ⊢
 simp only [go_sem, seval, ↓reduceIte] at hix
 refine acall_body Tryd.func121 rfl Tryd.ntmps121 (by simp) (fun hsc => ?_); simp only [Lf.enter, Nat.reduceAdd]; clear hsc
 have hU := @hix
 repeat' (first | (guard_target =~ PWp _ _ _ _ _ _ _; first | (refine pwp_seq_k (fun K hK => ?_)) | (refine pwp_rg_then ?_) | (refine pwp_ret ?_)) | (guard_target =~ rg _ _ _ _ _ _ _; first | (guard_target =~ rg _ _ _ [] _ _ _; first | (refine rg_end ?_)) | (refine rg_a rfl (h := ?_)) | (refine rg_v rfl (h := ?_))) | (guard_target =~ (_ ∨ _) ∧ _; first | ((refine end_d [] (by rw [Tryd.results121, Lf.res1]) (ale_1 ?_) ?_) <;> (try (first | exact aleT | exact stq (by with_reducible rfl) | exact stq (by rfl) | exact stq (by simp (disch := omega) only [go_sem, seval, ↓reduceIte, hU]))))) | (refine hK _ _ ?_; clear hK K))
 all_goals exact ale_i (by omega)
end Go.Proofs.YtohbfcmmpaikhaaDoor

