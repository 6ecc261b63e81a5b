import Derived.Test.YtohbfcmmpaikhaaDoorZ03
import Derived.Test.YtohbfcmmpaikhaaDoorLc
set_option linter.unusedVariables false
set_option linter.unusedSimpArgs false
namespace Go.Proofs.YtohbfcmmpaikhaaDoor
open Go Go.Lf Go.Proofs
attribute [local irreducible] Lf.rg Lf.ro Lf.PWp Lf.SOp Lf.ACall Lf.Scoped Lf.dg Lf.dw
set_option maxRecDepth 20000
set_option maxHeartbeats 4000000
def tR0 : List Int := [13, 23, 28, 28, 28, 28, 28, 28, 28, 24, 30, 28, 28, 30, 28, 28]
def tR1 : List Int := [28, 28, 28, 28, 28, 28, 30, 28, 28, 28, 28, 28, 28, 28, 28, 28]
def tR2 : List Int := [6, 10, 10, 12, 13, 6, 8, 11, 10, 10, 8, 11, 8, 6, 6, 6]
def tR3 : List Int := [5, 5, 5, 6, 6, 6, 6, 6, 6, 6, 7, 8, 15, 6, 12, 10]
def tR4 : List Int := [13, 6, 7, 7, 7, 7, 7, 7, 7, 7, 7, 7, 7, 7, 7, 7]
def tR5 : List Int := [7, 7, 7, 7, 7, 7, 7, 7, 8, 7, 8, 13, 19, 13, 14, 6]
def tR6 : List Int := [15, 5, 6, 5, 6, 5, 6, 6, 6, 5, 7, 7, 6, 6, 6, 5]
def tR7 : List Int := [6, 7, 6, 5, 5, 6, 7, 7, 7, 7, 7, 15, 11, 14, 13, 28]
def tR8 : List Int := [20, 22, 20, 20, 22, 22, 22, 23, 22, 23, 23, 23, 23, 23, 24, 23]
def tR9 : List Int := [24, 24, 22, 23, 24, 23, 23, 23, 23, 21, 22, 23, 22, 23, 23, 24]
def tR10 : List Int := [22, 21, 20, 22, 22, 23, 23, 21, 23, 22, 22, 24, 21, 22, 23, 23]
def tR11 : List Int := [21, 21, 22, 21, 23, 22, 23, 23, 20, 22, 22, 22, 23, 22, 22, 23]
def tR12 : List Int := [26, 26, 20, 19, 22, 23, 22, 25, 26, 26, 26, 27, 27, 26, 24, 25]
def tR13 : List Int := [19, 21, 26, 27, 27, 26, 27, 24, 21, 21, 26, 26, 28, 27, 27, 27]
def tR14 : List Int := [20, 24, 20, 21, 22, 21, 21, 23, 22, 22, 25, 25, 24, 24, 26, 23]
def tR15 : List Int := [26, 27, 26, 26, 27, 27, 27, 27, 27, 28, 27, 27, 27, 27, 27, 26]
def tR16 : List Int := [30]
def rowL : Nat → List Int
 | 0 => tR0
 | 1 => tR1
 | 2 => tR2
 | 3 => tR3
 | 4 => tR4
 | 5 => tR5
 | 6 => tR6
 | 7 => tR7
 | 8 => tR8
 | 9 => tR9
 | 10 => tR10
 | 11 => tR11
 | 12 => tR12
 | 13 => tR13
 | 14 => tR14
 | 15 => tR15
 | _ => tR16
def lensT : List Int := (List.range 257).map fun s : Nat => szI (s : Int)
theorem lensT_row : ∀ i : Fin 17, lensT.take (16 * i.val) ++ rowL i.val = lensT.take (16 * (i.val + 1)) := by decide +kernel
theorem lensT_all : lensT.take (16 * 17) = lensT := by decide +kernel
theorem lensT_len : lensT.length = 257 := by simp [lensT]
theorem lensT_at {s : Nat} (h : s < 257) : lensT[s]? = some (szI (s : Int)) := by
 unfold lensT; rw [List.getElem?_map, List.getElem?_range h]; rfl
theorem rowL_at : ∀ s : Fin 257, (rowL (s.val / 16))[s.val % 16]? = some (szI (s.val : Int)) := by decide +kernel
theorem rowL_len : ∀ i : Fin 17, (rowL i.val).length ≤ 16 ∧ (rowL i.val).map intA ≠ [] := by
 intro i; exact ⟨by revert i; decide +kernel, by intro h; have h2 := congrArg List.length h; rw [List.length_map] at h2; revert h2; revert i; decide +kernel⟩
theorem rrow_n (k : Nat) (hk : k ≤ 16) : AEq Tryd.prog 126 [i64 (k : Int)] [] (.sl true false ((rowL k).map intA)) [] := by
 obtain rfl | rfl | rfl | rfl | rfl | rfl | rfl | rfl | rfl | rfl | rfl | rfl | rfl | rfl | rfl | rfl | rfl : k = 0 ∨ k = 1 ∨ k = 2 ∨ k = 3 ∨ k = 4 ∨ k = 5 ∨ k = 6 ∨ k = 7 ∨ k = 8 ∨ k = 9 ∨ k = 10 ∨ k = 11 ∨ k = 12 ∨ k = 13 ∨ k = 14 ∨ k = 15 ∨ k = 16 := by omega
 all_goals (refine acall_body Tryd.func126 rfl Tryd.ntmps126 (by simp) (fun hsc => ?_); simp only [Lf.enter, Nat.reduceAdd]; clear hsc)
 all_goals (have hU := True.intro)
 all_goals (repeat' (first | (guard_target =~ PWp _ _ _ _ _ _ _; first | (refine pwp_seq_k (fun K hK => ?_)) | (refine pwp_block ?_) | (refine pwp_rg_then ?_) | (refine pwp_ret ?_) | (refine pwp_skip ?_) | ((refine pwp_cond_d (fun hcd => ?_) (fun hcd => ?_)) <;> (try simp only [hcP] at hcd) <;> (try exact cdT))) | (guard_target =~ rg _ _ _ _ _ _ _; first | (guard_target =~ rg _ _ _ [] _ _ _; first | (refine rg_end ?_)) | (refine rg_a rfl (h := ?_)) | (refine rg_v rfl (h := ?_)) | (refine rg_s rfl ?_)) | (guard_target =~ SOp _ _ _ _ _ _; first | (guard_target =~ SOp _ _ ⟨_, .buildSlice _ _ _, _, _, _, none⟩ _ _ _; first | (refine n_lit (xs := List.map (intA) (tR0)) rfl (he := by first | exact eo3 | exact eo4 | exact eo53 | fail) (hc := by first | rfl | assumption | (simp (disch := omega) only [go_sem, seval, ↓reduceIte, hU]; rfl)) (hK := ?_)) | (refine n_lit (xs := List.map (intA) (tR1)) rfl (he := by first | exact eo3 | exact eo4 | exact eo53 | fail) (hc := by first | rfl | assumption | (simp (disch := omega) only [go_sem, seval, ↓reduceIte, hU]; rfl)) (hK := ?_)) | (refine n_lit (xs := List.map (intA) (tR2)) rfl (he := by first | exact eo3 | exact eo4 | exact eo53 | fail) (hc := by first | rfl | assumption | (simp (disch := omega) only [go_sem, seval, ↓reduceIte, hU]; rfl)) (hK := ?_)) | (refine n_lit (xs := List.map (intA) (tR3)) rfl (he := by first | exact eo3 | exact eo4 | exact eo53 | fail) (hc := by first | rfl | assumption | (simp (disch := omega) only [go_sem, seval, ↓reduceIte, hU]; rfl)) (hK := ?_)) | (refine n_lit (xs := List.map (intA) (tR4)) rfl (he := by first | exact eo3 | exact eo4 | exact eo53 | fail) (hc := by first | rfl | assumption | (simp (disch := omega) only [go_sem, seval, ↓reduceIte, hU]; rfl)) (hK := ?_)) | (refine n_lit (xs := List.map (intA) (tR5)) rfl (he := by first | exact eo3 | exact eo4 | exact eo53 | fail) (hc := by first | rfl | assumption | (simp (disch := omega) only [go_sem, seval, ↓reduceIte, hU]; rfl)) (hK := ?_)) | (refine n_lit (xs := List.map (intA) (tR6)) rfl (he := by first | exact eo3 | exact eo4 | exact eo53 | fail) (hc := by first | rfl | assumption | (simp (disch := omega) only [go_sem, seval, ↓reduceIte, hU]; rfl)) (hK := ?_)) | (refine n_lit (xs := List.map (intA) (tR7)) rfl (he := by first | exact eo3 | exact eo4 | exact eo53 | fail) (hc := by first | rfl | assumption | (simp (disch := omega) only [go_sem, seval, ↓reduceIte, hU]; rfl)) (hK := ?_)) | (refine n_lit (xs := List.map (intA) (tR8)) rfl (he := by first | exact eo3 | exact eo4 | exact eo53 | fail) (hc := by first | rfl | assumption | (simp (disch := omega) only [go_sem, seval, ↓reduceIte, hU]; rfl)) (hK := ?_)) | (refine n_lit (xs := List.map (intA) (tR9)) rfl (he := by first | exact eo3 | exact eo4 | exact eo53 | fail) (hc := by first | rfl | assumption | (simp (disch := omega) only [go_sem, seval, ↓reduceIte, hU]; rfl)) (hK := ?_)) | (refine n_lit (xs := List.map (intA) (tR10)) rfl (he := by first | exact eo3 | exact eo4 | exact eo53 | fail) (hc := by first | rfl | assumption | (simp (disch := omega) only [go_sem, seval, ↓reduceIte, hU]; rfl)) (hK := ?_)) | (refine n_lit (xs := List.map (intA) (tR11)) rfl (he := by first | exact eo3 | exact eo4 | exact eo53 | fail) (hc := by first | rfl | assumption | (simp (disch := omega) only [go_sem, seval, ↓reduceIte, hU]; rfl)) (hK := ?_)) | (refine n_lit (xs := List.map (intA) (tR12)) rfl (he := by first | exact eo3 | exact eo4 | exact eo53 | fail) (hc := by first | rfl | assumption | (simp (disch := omega) only [go_sem, seval, ↓reduceIte, hU]; rfl)) (hK := ?_)) | (refine n_lit (xs := List.map (intA) (tR13)) rfl (he := by first | exact eo3 | exact eo4 | exact eo53 | fail) (hc := by first | rfl | assumption | (simp (disch := omega) only [go_sem, seval, ↓reduceIte, hU]; rfl)) (hK := ?_)) | (refine n_lit (xs := List.map (intA) (tR14)) rfl (he := by first | exact eo3 | exact eo4 | exact eo53 | fail) (hc := by first | rfl | assumption | (simp (disch := omega) only [go_sem, seval, ↓reduceIte, hU]; rfl)) (hK := ?_)) | (refine n_lit (xs := List.map (intA) (tR15)) rfl (he := by first | exact eo3 | exact eo4 | exact eo53 | fail) (hc := by first | rfl | assumption | (simp (disch := omega) only [go_sem, seval, ↓reduceIte, hU]; rfl)) (hK := ?_)) | (refine n_lit (xs := List.map (intA) (tR16)) rfl (he := by first | exact eo3 | exact eo4 | exact eo53 | fail) (hc := by first | rfl | assumption | (simp (disch := omega) only [go_sem, seval, ↓reduceIte, hU]; rfl)) (hK := ?_)))) | (guard_target =~ (_ ∨ _) ∧ _; first | ((refine end_d [] (by rw [Tryd.results126, Lf.res1]) (ale_1 ?_) ?_) <;> (try (first | exact aleT | exact stq (by with_reducible rfl) | exact stq (by rfl) | exact stq (by simp (disch := omega) only [go_sem, seval, ↓reduceIte, hU]))))) | (refine hK _ _ ?_; clear hK K)))
theorem rrow (n : Int) (h0 : 0 ≤ n) (h1 : n ≤ 16) : AEq Tryd.prog 126 [i64 n] [] (.sl true false ((rowL n.toNat).map intA)) [] := by
 obtain ⟨k, rfl⟩ : ∃ k : Nat, n = k := ⟨n.toNat, by omega⟩
 rw [Int.toNat_natCast]
 exact rrow_n k (by omega)
attribute [local irreducible] rowL szI lensT symK ordN cntN codeN
theorem rlength (s : Nat) (hs : s < 257) : AEq Tryd.prog 107 [i64 (s : Int)] [] (i64 (szI (s : Int))) [] := by
 have hr := rowL_at ⟨s, hs⟩
 dsimp only at hr
 have e1 : ((s : Int) / 16).toNat = s / 16 := by omega
 have e2 : ((s : Int) % 16).toNat = s % 16 := by omega
 have hrl : (rowL (s / 16))[s % 16]? = some (szI (s : Int)) := hr
 have hll : s % 16 < (rowL (s / 16)).length := (List.getElem?_eq_some_iff.1 hr).1
 have hz1 : (s : Int) ≤ 9223372036854775807 := by omega
 have hs0 : ((s : Int) < 0) = False := by simp
 have hs1 : decide ((256 : Int) < (s : Int)) = false := decide_eq_false (by omega)
 refine acall_body Tryd.func107 rfl Tryd.ntmps107 (by simp) (fun hsc => ?_); simp only [Lf.enter, Nat.reduceAdd]; clear hsc
 have hU := And.intro @e1 ( And.intro @e2 ( And.intro @hs0 (@hs1)))
 repeat' (first | (guard_target =~ PWp _ _ _ _ _ _ _; first | (refine pwp_seq_k (fun K hK => ?_)) | (refine pwp_rg_then ?_) | (refine pwp_ret ?_) | (refine pwp_skip ?_) | ((refine pwp_cond_d (fun hcd => ?_) (fun hcd => ?_)) <;> (try simp only [hcP] at hcd) <;> (try exact cdT))) | (guard_target =~ rg _ _ _ _ _ _ _; first | (guard_target =~ rg _ _ _ (⟨_, .move _, _, _, _, some _⟩ :: _) _ _ _; first | (refine rg_gtp rfl (h := ?_))) | (guard_target =~ rg _ _ _ (⟨_, .binOp _ _ _ _ _, _, _, _, some _⟩ :: _) _ _ _; first | (refine rg_gtp rfl (h := ?_))) | (guard_target =~ rg _ _ _ [] _ _ _; first | (refine rg_end ?_)) | (refine rg_a rfl (h := ?_)) | (refine rg_v rfl (h := ?_)) | (refine rg_s rfl ?_)) | (guard_target =~ SOp _ _ _ _ _ _; first | (guard_target =~ SOp _ _ ⟨_, .indexAddr _ _ _, _, _, _, none⟩ _ _ _; first | (refine n_index rfl (hK := ?_))) | (guard_target =~ SOp _ _ ⟨_, .call ⟨.value (.func 126), _, _⟩, _, _, _, none⟩ _ _ _; first | (refine n_call (f := 126) rfl Tryd.call126 (h := AEq.pure' agT (rrow _ (by omega) (by omega)) (hq := ?_))))) | (guard_target =~ (_ ∨ _) ∧ _; first | ((refine end_d [] (by rw [Tryd.results107, Lf.res1]) (ale_1 ?_) ?_) <;> (try (first | exact aleT | exact stq (by with_reducible rfl) | exact stq (by rfl) | exact stq (by simp (disch := omega) only [go_sem, seval, ↓reduceIte, hU]))))) | (refine hK _ _ ?_; clear hK K))
theorem rlengths : AEq Tryd.prog 101 [] [] (.sl false false (lensT.map intA)) [] := by
 refine acall_body Tryd.func101 rfl Tryd.ntmps101 (by simp) (fun hsc => ?_); simp only [Lf.enter, Nat.reduceAdd]; clear hsc
 have hU := True.intro
 repeat' (first | (guard_target =~ PWp _ _ _ _ _ _ _; first | (refine pwp_seq_k (fun K hK => ?_)) | (refine pwp_block ?_) | (refine pwp_rg_then ?_)) | (guard_target =~ rg _ _ _ _ _ _ _; first | (guard_target =~ rg _ _ _ [] _ _ _; first | (refine rg_end ?_)) | (refine rg_a rfl (h := ?_))) | (refine hK _ _ ?_; clear hK K))
 refine pwp_row 1 3 1 (by decide) (by rfl) rfl rfl ?_
 refine pwp_loop_g [1, 2, 3, 4, 5, 6, 7, 8, 9, 10] [0] (fun i : Nat => [(2, i64 i), (1, .row 0 i)]) (fun i => [.row i 3 1 ((lensT.take (16 * i)).map intA)]) (fun i => i ≤ 17) (fun i => 17 - i) 0 (fun _ => rfl) rfl rfl (by decide) ?_ (by rw [Nat.mul_zero, List.take_zero]; rfl) (by intro s i x h; simp only [List.mem_cons, Prod.mk.injEq, List.not_mem_nil, or_false] at h; rcases h with ⟨rfl, _⟩ | ⟨rfl, _⟩ <;> decide) ?_
 ·(refine ⟨⟨_, sT, ?_⟩, ⟨_, sT, ?_⟩, trivial⟩ <;> (try (first | exact aleT)))
 ·rintro i hi
  simp only [mask, List.map_cons, List.map_nil, List.cons_append, List.nil_append]
  by_cases hlt : i < 17
  ·have hrow := lensT_row ⟨i, hlt⟩
   obtain ⟨hrl, hne⟩ := rowL_len ⟨i, hlt⟩
   dsimp only at hrow hrl hne
   have htl : (lensT.take (16 * i)).length ≤ 257 := by rw [List.length_take, lensT_len]; omega
   have hfm : List.map intA (lensT.take (16 * i)) ++ List.map intA (rowL i) = List.map intA (lensT.take (16 * (i + 1))) := by rw [← List.map_append, hrow]
   have hU := @hfm
   repeat' (first | (guard_target =~ PWp _ _ _ _ _ _ _; first | (refine pwp_seq_k (fun K hK => ?_)) | (refine pwp_block ?_) | (refine pwp_rg_then ?_) | (refine pwp_rg ?_) | (refine pwp_skip ?_) | ((refine pwp_cond_d (fun hcd => ?_) (fun hcd => ?_)) <;> (try simp only [hcP] at hcd) <;> (try exact cdT))) | (guard_target =~ rg _ _ _ _ _ _ _; first | (guard_target =~ rg _ _ _ [] _ _ _; first | (refine rg_end ?_)) | (refine rg_a rfl (h := ?_)) | (refine rg_v rfl (h := ?_)) | (refine rg_s rfl ?_)) | (guard_target =~ SOp _ _ _ _ _ _; first | (guard_target =~ SOp _ _ ⟨_, .call ⟨.builtin .append, _, _⟩, _, _, _, none⟩ _ _ _; first | (refine n_append_row rfl (he := by first | exact eo3 | exact eo4 | exact eo53 | fail) (hK := ?_))) | (guard_target =~ SOp _ _ ⟨_, .call ⟨.value (.func 126), _, _⟩, _, _, _, none⟩ _ _ _; first | (refine n_call (f := 126) rfl Tryd.call126 (h := AEq.pure' agT (rrow_n _ (by omega)) (hq := ?_))))) | (refine hK _ _ ?_; clear hK K))
   refine ⟨i + 1, by omega, by omega, ?_, (by repeat' (first | exact agr_refl | refine agr_cons (by rfl) ?_)), (by first | rfl | (simp (disch := omega) only [go_sem, seval, ↓reduceIte, hU]; done) | (simp (disch := omega) only [go_sem, seval, ↓reduceIte, hU]; rfl))⟩
   (refine ⟨⟨_, sT, ?_⟩, ⟨_, sT, ?_⟩, trivial⟩ <;> (try (first | exact aleT)))
  ·have hi7 : i = 17 := by omega
   subst hi7
   have hall := lensT_all
   have hU := @hall
   repeat' (first | (guard_target =~ PWp _ _ _ _ _ _ _; first | (refine pwp_seq_k (fun K hK => ?_)) | (refine pwp_rg_then ?_) | (refine pwp_ret ?_) | (refine pwp_exit ?_) | ((refine pwp_cond_d (fun hcd => ?_) (fun hcd => ?_)) <;> (try simp only [hcP] at hcd) <;> (try exact cdT))) | (guard_target =~ rg _ _ _ _ _ _ _; first | (guard_target =~ rg _ _ _ [] _ _ _; first | (refine rg_end ?_)) | (refine rg_a rfl (h := ?_)) | (refine rg_v rfl (h := ?_))) | (guard_target =~ (_ ∨ _) ∧ _; first | ((refine end_d [] (by rw [Tryd.results101, Lf.res1]) (ale_1 ?_) ?_) <;> (try (first | exact aleT | exact stq (by with_reducible rfl) | exact stq (by rfl) | exact stq (by simp (disch := omega) only [go_sem, seval, ↓reduceIte, hU]))))) | (refine hK _ _ ?_; clear hK K) | (apply_assumption (exfalso := false) (symm := false)))
theorem rorder : AEq Tryd.prog 125 [] [] (.sl false false ((ordN 31).map natA)) [] := by
 have hll := lensT_len
 refine acall_body Tryd.func125 rfl Tryd.ntmps125 (by simp) (fun hsc => ?_); simp only [Lf.enter, Nat.reduceAdd]; clear hsc
 have hU := True.intro
 repeat' (first | (guard_target =~ PWp _ _ _ _ _ _ _; first | (refine pwp_seq_k (fun K hK => ?_)) | (refine pwp_block ?_) | (refine pwp_rg_then ?_)) | (guard_target =~ rg _ _ _ _ _ _ _; first | (guard_target =~ rg _ _ _ [] _ _ _; first | (refine rg_end ?_)) | (refine rg_a rfl (h := ?_)) | (refine rg_s rfl ?_)) | (guard_target =~ SOp _ _ _ _ _ _; first | (guard_target =~ SOp _ _ ⟨_, .call ⟨.value (.func 101), _, _⟩, _, _, _, none⟩ _ _ _; first | (refine n_call (f := 101) rfl Tryd.call101 (h := AEq.pure' agT rlengths (hq := ?_))))) | (refine hK _ _ ?_; clear hK K))
 refine pwp_row 2 3 1 (by decide) (by rfl) rfl rfl ?_
 refine pwp_loop_g [2, 3, 4, 6, 7, 8, 9, 10, 11, 12, 13, 14, 15, 16, 17, 18, 19, 20, 21, 22, 23] [0] (fun n : Nat => [(3, i64 n), (2, .row 0 (ordN n).length)]) (fun n => [.row (ordN n).length 3 1 ((ordN n).map natA)]) (fun n => 1 ≤ n ∧ n ≤ 31) (fun n => 31 - n) 1 (fun _ => rfl) rfl rfl ⟨by decide, by decide⟩ ?_ (by rw [ordN_one]; rfl) (by intro s i x h; simp only [List.mem_cons, Prod.mk.injEq, List.not_mem_nil, or_false] at h; rcases h with ⟨rfl, _⟩ | ⟨rfl, _⟩ <;> decide) ?_
 ·(refine ⟨⟨_, sT, ?_⟩, ⟨_, sT, ?_⟩, trivial⟩ <;> (try (first | exact aleT)))
  all_goals exact ale_eq (by rw [ordN_one]; rfl)
 ·rintro n ⟨h1, h31⟩
  simp only [mask, List.map_cons, List.map_nil, List.cons_append, List.nil_append]
  by_cases hlt : n < 31
  ·have hol := ordN_len ⟨n, by omega⟩
   dsimp only at hol
   repeat' (first | (guard_target =~ PWp _ _ _ _ _ _ _; first | (refine pwp_seq_k (fun K hK => ?_)) | (refine pwp_block ?_) | (refine pwp_rg_then ?_) | (refine pwp_skip ?_) | ((refine pwp_cond_d (fun hcd => ?_) (fun hcd => ?_)) <;> (try simp only [hcP] at hcd) <;> (try exact cdT))) | (guard_target =~ rg _ _ _ _ _ _ _; first | (guard_target =~ rg _ _ _ [] _ _ _; first | (refine rg_end ?_)) | (refine rg_a rfl (h := ?_)) | (refine rg_v rfl (h := ?_))) | (refine hK _ _ ?_; clear hK K))
   refine pwp_loop_g [2, 4, 10, 11, 12, 13, 14, 15, 16, 17, 18, 19, 20, 21, 22, 23] [0] (fun k : Nat => [(4, i64 k), (2, .row 0 ((ordN n).length + (symK n k).length))]) (fun k => [.row ((ordN n).length + (symK n k).length) 3 1 ((ordN n ++ symK n k).map natA)]) (fun k => k ≤ 257) (fun k => 257 - k) 0 (fun _ => rfl) rfl rfl (Nat.zero_le _) ?_ (by rw [symK_0, List.append_nil]; rfl) (by intro s i x h; simp only [List.mem_cons, Prod.mk.injEq, List.not_mem_nil, or_false] at h; rcases h with ⟨rfl, _⟩ | ⟨rfl, _⟩ <;> decide) ?_
   ·(refine ⟨⟨_, sT, ?_⟩, ⟨_, sT, ?_⟩, trivial⟩ <;> (try (first | exact aleT)))
    all_goals exact ale_eq (by rw [symK_0]; rfl)
   ·rintro k hk
    simp only [mask, List.map_cons, List.map_nil, List.cons_append, List.nil_append]
    by_cases hlt3 : k < 257
    ·have hsl := symK_le n k
     have hat := lensT_at hlt3
     by_cases hsz : szI (k : Int) = (n : Int)
     ·obtain ⟨st, hst⟩ : ∃ st, (ordN n).length + (symK n k).length = st := ⟨_, rfl⟩
      rw [hst]
      have hol2 : (ordN n ++ symK n k).length = st := by rw [List.length_append]; exact hst
      have hap : List.map natA (ordN n ++ symK n k) ++ [[AV.lit (.int .i64 (k : Int))]] = List.map natA (ordN n ++ symK n (k + 1)) := by
       rw [symK_succ, if_pos hsz, ← List.append_assoc, List.map_append (l₁ := ordN n ++ symK n k)]; rfl
      have hst2 : (ordN n).length + (symK n (k + 1)).length = st + 1 := by rw [symK_succ, if_pos hsz, List.length_append]; simp; omega
      have hU := And.intro @hap (@hsz)
      repeat' (first | (guard_target =~ PWp _ _ _ _ _ _ _; first | (refine pwp_seq_k (fun K hK => ?_)) | (refine pwp_block ?_) | (refine pwp_rg_then ?_) | (refine pwp_rg ?_) | (refine pwp_skip ?_) | ((refine pwp_cond_d (fun hcd => ?_) (fun hcd => ?_)) <;> (try simp only [hcP] at hcd) <;> (try exact cdT))) | (guard_target =~ rg _ _ _ _ _ _ _; first | (guard_target =~ rg _ _ _ [] _ _ _; first | (refine rg_end ?_)) | (refine rg_a rfl (h := ?_)) | (refine rg_v rfl (h := ?_)) | (refine rg_s rfl ?_)) | (guard_target =~ SOp _ _ _ _ _ _; first | (guard_target =~ SOp _ _ ⟨_, .call ⟨.builtin .append, _, _⟩, _, _, _, none⟩ _ _ _; first | (refine n_append_row rfl (he := by first | exact eo3 | exact eo4 | exact eo53 | fail) (hK := ?_))) | (guard_target =~ SOp _ _ ⟨_, .buildSlice _ _ _, _, _, _, none⟩ _ _ _; first | (refine n_lit rfl (he := by first | exact eo3 | exact eo4 | exact eo53 | fail) (hK := ?_))) | (guard_target =~ SOp _ _ ⟨_, .indexAddr _ _ _, _, _, _, none⟩ _ _ _; first | (refine n_index rfl (hK := ?_)))) | (refine hK _ _ ?_; clear hK K))
      refine ⟨k + 1, by omega, by omega, ?_, (by repeat' (first | exact agr_refl | refine agr_cons (by rfl) ?_)), ?_⟩
      ·rw [hst2]
       (refine ⟨⟨_, sT, ?_⟩, ⟨_, sT, ?_⟩, trivial⟩ <;> (try (first | exact aleT)))
      ·rw [hst2]
       first | rfl | (simp only [hap, go_sem]; done) | trace_state
     ·have hst2 : (ordN n).length + (symK n (k + 1)).length = (ordN n).length + (symK n k).length := by rw [symK_succ, if_neg hsz, List.append_nil]
      have hsy : symK n (k + 1) = symK n k := by rw [symK_succ, if_neg hsz, List.append_nil]
      repeat' (first | (guard_target =~ PWp _ _ _ _ _ _ _; first | (refine pwp_seq_k (fun K hK => ?_)) | (refine pwp_block ?_) | (refine pwp_rg_then ?_) | (refine pwp_skip ?_) | ((refine pwp_cond_d (fun hcd => ?_) (fun hcd => ?_)) <;> (try simp only [hcP] at hcd) <;> (try exact cdT))) | (guard_target =~ rg _ _ _ _ _ _ _; first | (guard_target =~ rg _ _ _ [] _ _ _; first | (refine rg_end ?_)) | (refine rg_a rfl (h := ?_)) | (refine rg_v rfl (h := ?_)) | (refine rg_s rfl ?_)) | (guard_target =~ SOp _ _ _ _ _ _; first | (guard_target =~ SOp _ _ ⟨_, .indexAddr _ _ _, _, _, _, none⟩ _ _ _; first | (refine n_index rfl (hK := ?_)))) | (refine hK _ _ ?_; clear hK K))
      refine ⟨k + 1, by omega, by omega, ?_, (by repeat' (first | exact agr_refl | refine agr_cons (by rfl) ?_)), ?_⟩
      ·rw [hsy]
       (refine ⟨⟨_, sT, ?_⟩, ⟨_, sT, ?_⟩, trivial⟩ <;> (try (first | exact aleT)))
      ·rw [hsy]
       first | rfl | (simp only [go_sem]; done) | trace_state
    ·have hk7 : k = 257 := by omega
     subst hk7
     have hon : (ordN (n + 1)).length = (ordN n).length + (symK n 257).length := by rw [ordN_succ, List.length_append]
     repeat' (first | (guard_target =~ PWp _ _ _ _ _ _ _; first | (refine pwp_seq_k (fun K hK => ?_)) | (refine pwp_rg_then ?_) | (refine pwp_exit ?_) | ((refine pwp_cond_d (fun hcd => ?_) (fun hcd => ?_)) <;> (try simp only [hcP] at hcd) <;> (try exact cdT))) | (guard_target =~ rg _ _ _ _ _ _ _; first | (guard_target =~ rg _ _ _ [] _ _ _; first | (refine rg_end ?_)) | (refine rg_a rfl (h := ?_)) | (refine rg_v rfl (h := ?_))) | (refine hK _ _ ?_; clear hK K) | (apply_assumption (exfalso := false) (symm := false)))
     refine ⟨n + 1, ⟨by omega, by omega⟩, by omega, ?_, (by repeat' (first | exact agr_refl | refine agr_cons (by rfl) ?_)), ?_⟩
     ·rw [hon]
      (refine ⟨⟨_, sT, ?_⟩, ⟨_, sT, ?_⟩, trivial⟩ <;> (try (first | exact aleT)))
     ·rw [hon, ordN_succ]
      first | rfl | (simp only [go_sem]; done) | trace_state
  ·have hn31 : n = 31 := by omega
   subst hn31
   repeat' (first | (guard_target =~ PWp _ _ _ _ _ _ _; first | (refine pwp_seq_k (fun K hK => ?_)) | (refine pwp_rg_then ?_) | (refine pwp_ret ?_) | (refine pwp_exit ?_) | ((refine pwp_cond_d (fun hcd => ?_) (fun hcd => ?_)) <;> (try simp only [hcP] at hcd) <;> (try exact cdT))) | (guard_target =~ rg _ _ _ _ _ _ _; first | (guard_target =~ rg _ _ _ [] _ _ _; first | (refine rg_end ?_)) | (refine rg_a rfl (h := ?_)) | (refine rg_v rfl (h := ?_))) | (guard_target =~ (_ ∨ _) ∧ _; first | ((refine end_d [] (by rw [Tryd.results125, Lf.res1]) (ale_1 ?_) ?_) <;> (try (first | exact aleT | exact stq (by with_reducible rfl) | exact stq (by rfl) | exact stq (by simp (disch := omega) only [go_sem, seval, ↓reduceIte, hU]))))) | (refine hK _ _ ?_; clear hK K) | (apply_assumption (exfalso := false) (symm := false)))
end Go.Proofs.YtohbfcmmpaikhaaDoor

set_option linter.unusedVariables false
set_option linter.unusedSimpArgs false
namespace Go.Proofs.YtohbfcmmpaikhaaDoor
open Go Go.Lf Go.Proofs
attribute [local irreducible] Lf.rg Lf.ro Lf.PWp Lf.SOp Lf.ACall Lf.Scoped Lf.dg Lf.dw
set_option maxRecDepth 20000
set_option maxHeartbeats 4000000
def symT : List Nat := [48, 49, 50, 97, 99, 101, 105, 111, 115, 116, 32, 37, 45, 46, 47, 51, 52, 53, 54, 55, 56, 57, 61, 65, 95, 98, 100, 102, 103, 104, 108, 109, 110, 112, 114, 117, 58, 66, 67, 68, 69, 70, 71, 72, 73, 74, 75, 76, 77, 78, 79, 80, 81, 82, 83, 84, 85, 86, 87, 89, 106, 107, 113, 118, 119, 120, 121, 122, 38, 42, 44, 59, 88, 90, 33, 34, 40, 41, 63, 39, 43, 124, 35, 62, 0, 36, 64, 91, 93, 126, 94, 125, 60, 96, 123, 92, 195, 208, 128, 130, 131, 162, 184, 194, 224, 226, 153, 161, 167, 172, 176, 177, 179, 209, 216, 217, 227, 229, 230, 129, 132, 133, 134, 136, 146, 154, 156, 160, 163, 164, 169, 170, 173, 178, 181, 185, 186, 187, 189, 190, 196, 198, 228, 232, 233, 1, 135, 137, 138, 139, 140, 141, 143, 147, 149, 150, 151, 152, 155, 157, 158, 165, 166, 168, 174, 175, 180, 182, 183, 188, 191, 197, 231, 239, 9, 142, 144, 145, 148, 159, 171, 206, 215, 225, 236, 237, 199, 207, 234, 235, 192, 193, 200, 201, 202, 205, 210, 213, 218, 219, 238, 240, 242, 243, 255, 203, 204, 211, 212, 214, 221, 222, 223, 241, 244, 245, 246, 247, 248, 250, 251, 252, 253, 254, 2, 3, 4, 5, 6, 7, 8, 11, 12, 14, 15, 16, 17, 18, 19, 20, 21, 23, 24, 25, 26, 27, 28, 29, 30, 31, 127, 220, 249, 10, 13, 22, 256]
def lenO : List Nat := [5, 5, 5, 5, 5, 5, 5, 5, 5, 5, 6, 6, 6, 6, 6, 6, 6, 6, 6, 6, 6, 6, 6, 6, 6, 6, 6, 6, 6, 6, 6, 6, 6, 6, 6, 6, 7, 7, 7, 7, 7, 7, 7, 7, 7, 7, 7, 7, 7, 7, 7, 7, 7, 7, 7, 7, 7, 7, 7, 7, 7, 7, 7, 7, 7, 7, 7, 7, 8, 8, 8, 8, 8, 8, 10, 10, 10, 10, 10, 11, 11, 11, 12, 12, 13, 13, 13, 13, 13, 13, 14, 14, 15, 15, 15, 19, 19, 19, 20, 20, 20, 20, 20, 20, 20, 20, 21, 21, 21, 21, 21, 21, 21, 21, 21, 21, 21, 21, 21, 22, 22, 22, 22, 22, 22, 22, 22, 22, 22, 22, 22, 22, 22, 22, 22, 22, 22, 22, 22, 22, 22, 22, 22, 22, 22, 23, 23, 23, 23, 23, 23, 23, 23, 23, 23, 23, 23, 23, 23, 23, 23, 23, 23, 23, 23, 23, 23, 23, 23, 23, 23, 23, 23, 23, 24, 24, 24, 24, 24, 24, 24, 24, 24, 24, 24, 24, 25, 25, 25, 25, 26, 26, 26, 26, 26, 26, 26, 26, 26, 26, 26, 26, 26, 26, 26, 27, 27, 27, 27, 27, 27, 27, 27, 27, 27, 27, 27, 27, 27, 27, 27, 27, 27, 27, 28, 28, 28, 28, 28, 28, 28, 28, 28, 28, 28, 28, 28, 28, 28, 28, 28, 28, 28, 28, 28, 28, 28, 28, 28, 28, 28, 28, 28, 30, 30, 30, 30]
def codO : List Int := [0, 1, 2, 3, 4, 5, 6, 7, 8, 9, 20, 21, 22, 23, 24, 25, 26, 27, 28, 29, 30, 31, 32, 33, 34, 35, 36, 37, 38, 39, 40, 41, 42, 43, 44, 45, 92, 93, 94, 95, 96, 97, 98, 99, 100, 101, 102, 103, 104, 105, 106, 107, 108, 109, 110, 111, 112, 113, 114, 115, 116, 117, 118, 119, 120, 121, 122, 123, 248, 249, 250, 251, 252, 253, 1016, 1017, 1018, 1019, 1020, 2042, 2043, 2044, 4090, 4091, 8184, 8185, 8186, 8187, 8188, 8189, 16380, 16381, 32764, 32765, 32766, 524272, 524273, 524274, 1048550, 1048551, 1048552, 1048553, 1048554, 1048555, 1048556, 1048557, 2097116, 2097117, 2097118, 2097119, 2097120, 2097121, 2097122, 2097123, 2097124, 2097125, 2097126, 2097127, 2097128, 4194258, 4194259, 4194260, 4194261, 4194262, 4194263, 4194264, 4194265, 4194266, 4194267, 4194268, 4194269, 4194270, 4194271, 4194272, 4194273, 4194274, 4194275, 4194276, 4194277, 4194278, 4194279, 4194280, 4194281, 4194282, 4194283, 8388568, 8388569, 8388570, 8388571, 8388572, 8388573, 8388574, 8388575, 8388576, 8388577, 8388578, 8388579, 8388580, 8388581, 8388582, 8388583, 8388584, 8388585, 8388586, 8388587, 8388588, 8388589, 8388590, 8388591, 8388592, 8388593, 8388594, 8388595, 8388596, 16777194, 16777195, 16777196, 16777197, 16777198, 16777199, 16777200, 16777201, 16777202, 16777203, 16777204, 16777205, 33554412, 33554413, 33554414, 33554415, 67108832, 67108833, 67108834, 67108835, 67108836, 67108837, 67108838, 67108839, 67108840, 67108841, 67108842, 67108843, 67108844, 67108845, 67108846, 134217694, 134217695, 134217696, 134217697, 134217698, 134217699, 134217700, 134217701, 134217702, 134217703, 134217704, 134217705, 134217706, 134217707, 134217708, 134217709, 134217710, 134217711, 134217712, 268435426, 268435427, 268435428, 268435429, 268435430, 268435431, 268435432, 268435433, 268435434, 268435435, 268435436, 268435437, 268435438, 268435439, 268435440, 268435441, 268435442, 268435443, 268435444, 268435445, 268435446, 268435447, 268435448, 268435449, 268435450, 268435451, 268435452, 268435453, 268435454, 1073741820, 1073741821, 1073741822, 1073741823]
theorem symT_is : ordN 31 = symT := by decide +kernel
theorem symT_len : symT.length = 257 := by decide +kernel
theorem symT_lt : ∀ s ∈ symT, s < 257 := by decide +kernel
theorem lenO_is : symT.map (fun s : Nat => szI (s : Int)) = lenO.map (fun n : Nat => (n : Int)) := by decide +kernel
def outL : Nat → List Int
 | 0 => List.replicate 257 0
 | i + 1 => (outL i).set (symT.getD i 0) (codO.getD i 0)
def cdB : Nat → Int
 | 0 => 0
 | i + 1 => codO.getD i 0
theorem cdB_0 : cdB 0 = 0 := rfl
theorem cdB_s (i : Nat) : cdB (i + 1) = codO.getD i 0 := rfl
def codesT : List Int := (List.range 257).map csI
theorem outL_all : outL 257 = codesT := by decide +kernel
theorem outL_len : ∀ i, (outL i).length = 257
 | 0 => by simp [outL]
 | i + 1 => by rw [outL, List.length_set, outL_len i]
theorem lenO_up : ∀ i : Fin 256, lenO.getD i.val 0 ≤ lenO.getD (i.val + 1) 0 ∧ lenO.getD (i.val + 1) 0 ≤ 30 := by decide +kernel
theorem codO_up : ∀ i : Fin 256, codO.getD (i.val + 1) 0 = (codO.getD i.val 0 + 1) * 2 ^ (lenO.getD (i.val + 1) 0 - lenO.getD i.val 0) := by decide +kernel
theorem codO_bd : ∀ i : Fin 257, 0 ≤ codO.getD i.val 0 ∧ codO.getD i.val 0 ≤ 1073741823 := by decide +kernel
theorem codO_0 : codO.getD 0 0 = 0 := by decide +kernel
theorem lenO_len : lenO.length = 257 := by decide +kernel
theorem sym_at {i : Nat} (h : i < 257) : ∃ s, symT[i]? = some s ∧ s < 257 ∧ symT.getD i 0 = s ∧ szI (s : Int) = (lenO.getD i 0 : Nat) := by
 have hl : i < symT.length := by rw [symT_len]; exact h
 refine ⟨symT[i], List.getElem?_eq_getElem hl, symT_lt _ (List.getElem_mem hl), ?_, ?_⟩
 ·rw [List.getD_eq_getElem?_getD, List.getElem?_eq_getElem hl]; rfl
 ·have e := congrArg (fun l : List Int => l[i]?) lenO_is
  have hl2 : i < lenO.length := by rw [lenO_len]; exact h
  rw [List.getElem?_map, List.getElem?_map, List.getElem?_eq_getElem hl, List.getElem?_eq_getElem hl2] at e
  rw [List.getD_eq_getElem?_getD, List.getElem?_eq_getElem hl2]
  exact Option.some.inj e
theorem pow_bd : ∀ k : Fin 32, (1 : Int) ≤ 2 ^ k.val ∧ (2 : Int) ^ k.val ≤ 2147483648 := by decide +kernel
theorem zb_bd {x y z : Int} {c a n : Nat} (h : (x + 1) * 2 ^ (n - a) = z) (hup : y = (x + 1) * 2 ^ (c - a)) (hy : 0 ≤ y ∧ y ≤ 1073741823) (hx : 0 ≤ x) (h1 : a ≤ n) (h2 : n ≤ c) : 0 ≤ z ∧ z ≤ 2147483648 := by
 have p1 : (1 : Int) ≤ 2 ^ (n - a) := Int.pow_pos (by decide)
 have p2 : (1 : Int) ≤ 2 ^ (c - n) := Int.pow_pos (by decide)
 have e : (2 : Int) ^ (c - a) = 2 ^ (n - a) * 2 ^ (c - n) := by rw [← Int.pow_add]; congr 1; omega
 have hz0 : 0 ≤ z := by rw [← h]; exact Int.mul_nonneg (by omega) (by omega)
 rw [e, ← Int.mul_assoc, h] at hup
 have : z * 1 ≤ z * 2 ^ (c - n) := Int.mul_le_mul_of_nonneg_left p2 hz0
 omega
theorem rorder2 : AEq Tryd.prog 125 [] [] (.sl false false (symT.map natA)) [] := by
 have h := rorder
 rw [symT_is] at h
 exact h
attribute [local irreducible] szI lensT symT codO lenO outL codesT csI cdB
theorem rcodes : AEq Tryd.prog 100 [] [] (.sl false false (codesT.map intA)) [] := by
 have hsl := symT_len
 have hll := lensT_len
 have hz : List.replicate 257 [AV.lit (.int .i64 0)] = List.map intA (outL 0) := by with_unfolding_all rfl
 refine acall_body Tryd.func100 rfl Tryd.ntmps100 (by simp) (fun hsc => ?_); simp only [Lf.enter, Nat.reduceAdd]; clear hsc
 have hU := @hz
 repeat' (first | (guard_target =~ PWp _ _ _ _ _ _ _; first | (refine pwp_seq_k (fun K hK => ?_)) | (refine pwp_block ?_) | (refine pwp_rg_then ?_)) | (guard_target =~ rg _ _ _ _ _ _ _; first | (guard_target =~ rg _ _ _ [] _ _ _; first | (refine rg_end ?_)) | (refine rg_a rfl (h := ?_)) | (refine rg_s rfl ?_)) | (guard_target =~ SOp _ _ _ _ _ _; first | (guard_target =~ SOp _ _ ⟨_, .call ⟨.value (.func 125), _, _⟩, _, _, _, none⟩ _ _ _; first | (refine n_call (f := 125) rfl Tryd.call125 (h := AEq.pure' agT rorder2 (hq := ?_)))) | (guard_target =~ SOp _ _ ⟨_, .makeSlice _ _ _, _, _, _, none⟩ _ _ _; first | (refine n_make rfl (he := by first | exact eo3 | exact eo4 | exact eo53 | fail) (hK := ?_))) | (guard_target =~ SOp _ _ ⟨_, .call ⟨.value (.func 101), _, _⟩, _, _, _, none⟩ _ _ _; first | (refine n_call (f := 101) rfl Tryd.call101 (h := AEq.pure' agT rlengths (hq := ?_))))) | (refine hK _ _ ?_; clear hK K))
 refine pwp_loop_e [4, 5, 6, 10, 11, 12, 13, 14, 15, 16, 17, 18, 19, 20, 21, 22, 23, 24, 25, 26, 27, 28, 29, 30, 31, 32, 33, 34, 35, 36, 37, 38, 39, 40, 41, 42, 43, 44, 45, 46, 47] (fun i : Nat => [(5, i64 i), (4, i64 (cdB i))]) (fun i => [.row 0 3 1 ((outL i).map intA)]) (fun i => i ≤ 257) (fun i => 257 - i) 0 (Nat.zero_le _) ?_ ?_ ?_
 ·have hU := True.intro
  (refine ⟨⟨_, sT, ?_⟩, ⟨_, sT, ?_⟩, trivial⟩ <;> (try (first | exact aleT)))
  all_goals exact ale_i cdB_0.symm
 ·first | rfl | (rw [← hz]; rfl) | trace_state
 ·rintro i hi
  simp only [mask, List.map_cons, List.map_nil, List.cons_append, List.nil_append]
  by_cases hlt : i < 257
  ·obtain ⟨s, hs, hs1, hs2, hs3⟩ := sym_at hlt
   have hsz := lensT_at hs1
   have hol := outL_len i
   have hob := codO_bd ⟨i, hlt⟩
   dsimp only at hob
   obtain ⟨v0, hv0⟩ : ∃ v0, (outL i)[s]? = some v0 := ⟨(outL i)[s], List.getElem?_eq_getElem (by omega)⟩
   have hset : (List.map intA (outL i)).set s [AV.lit (.int .i64 (codO.getD i 0))] = List.map intA (outL (i + 1)) := by
    rw [outL, hs2, List.map_set]; rfl
   cases i with
   | zero =>
    have hc0 := codO_0
    rw [hc0] at hset
    have hcd0 := cdB_0
    have hU := And.intro @hset ( And.intro @hv0 (@hcd0))
    repeat' (first | (guard_target =~ PWp _ _ _ _ _ _ _; first | (refine pwp_seq_k (fun K hK => ?_)) | (refine pwp_block ?_) | (refine pwp_rg_then ?_) | (refine pwp_rg ?_) | (refine pwp_skip ?_) | ((refine pwp_cond_d (fun hcd => ?_) (fun hcd => ?_)) <;> (try simp only [hcP] at hcd) <;> (try exact cdT))) | (guard_target =~ rg _ _ _ _ _ _ _; first | (guard_target =~ rg _ _ _ [] _ _ _; first | (refine rg_end ?_)) | (refine rg_a rfl (h := ?_)) | (refine rg_v rfl (h := ?_)) | (refine rg_s rfl ?_) | (refine rg_n rfl ?_)) | (guard_target =~ SOp _ _ _ _ _ _; first | (guard_target =~ SOp _ _ ⟨_, .indexAddr _ _ _, _, _, _, none⟩ _ _ _; first | (refine n_index rfl (hK := ?_)) | (refine n_index_row rfl (hK := ?_))) | (guard_target =~ SOp _ _ ⟨_, .store _ _ _, _, _, _, none⟩ _ _ _; first | (refine n_store_ep rfl (hK := ?_)))) | (refine hK _ _ ?_; clear hK K))
    refine ⟨1, by omega, by omega, ?_, (by repeat' (first | exact agr_refl | refine agr_cons (by rfl) ?_)), (by first | rfl | (simp (disch := omega) only [go_sem, seval, ↓reduceIte, hU]; done) | (simp (disch := omega) only [go_sem, seval, ↓reduceIte, hU]; rfl))⟩
    (refine ⟨⟨_, sT, ?_⟩, ⟨_, sT, ?_⟩, trivial⟩ <;> (try (first | exact aleT)))
    all_goals exact ale_i (by rw [show cdB 1 = codO.getD 0 0 from cdB_s 0, hc0])
   | succ j =>
    have he : (((j + 1 : Nat) : Int) - 1) = (j : Int) := by omega
    obtain ⟨s', hs', hs1', hs2', hs3'⟩ := sym_at (i := j) (by omega)
    have hsz' := lensT_at hs1'
    have hcd0 := cdB_s j
    obtain ⟨u1, u2⟩ := lenO_up ⟨j, by omega⟩
    have hup := codO_up ⟨j, by omega⟩
    have hobj := codO_bd ⟨j, by omega⟩
    dsimp only at u1 u2 hup hobj
    obtain ⟨a, ha⟩ : ∃ a, lenO.getD j 0 = a := ⟨_, rfl⟩
    obtain ⟨c, hc⟩ : ∃ c, lenO.getD (j + 1) 0 = c := ⟨_, rfl⟩
    rw [ha, hc] at hup
    rw [ha] at u1 hs3'
    rw [hc] at u1 u2 hs3
    have hU := And.intro @he ( And.intro @hs3 ( And.intro @hs3' (@hcd0)))
    repeat' (first | (guard_target =~ PWp _ _ _ _ _ _ _; first | (refine pwp_seq_k (fun K hK => ?_)) | (refine pwp_block ?_) | (refine pwp_rg_then ?_) | (refine pwp_skip ?_) | ((refine pwp_cond_d (fun hcd => ?_) (fun hcd => ?_)) <;> (try simp only [hcP] at hcd) <;> (try exact cdT))) | (guard_target =~ rg _ _ _ _ _ _ _; first | (guard_target =~ rg _ _ _ [] _ _ _; first | (refine rg_end ?_)) | (refine rg_a rfl (h := ?_)) | (refine rg_v rfl (h := ?_)) | (refine rg_s rfl ?_)) | (guard_target =~ SOp _ _ _ _ _ _; first | (guard_target =~ SOp _ _ ⟨_, .indexAddr _ _ _, _, _, _, none⟩ _ _ _; first | (refine n_index rfl (hK := ?_)))) | (refine hK _ _ ?_; clear hK K))
    refine pwp_loop_e [4, 6, 28, 29, 30, 31, 32, 33, 34, 35, 36, 37, 38, 39, 40] (fun n : Nat => [(6, i64 n), (4, i64 ((codO.getD j 0 + 1) * 2 ^ (n - a)))]) (fun _ => [.row 0 3 1 ((outL (j + 1)).map intA)]) (fun n => a ≤ n ∧ n ≤ c) (fun n => c - n) a ⟨Nat.le_refl _, u1⟩ ?_ rfl ?_
    ·(refine ⟨⟨_, sT, ?_⟩, ⟨_, sT, ?_⟩, trivial⟩ <;> (try (first | exact aleT)))
     all_goals exact ale_i (by rw [Nat.sub_self]; simp)
    ·rintro n ⟨hn1, hn2⟩
     simp only [mask, List.map_cons, List.map_nil, List.cons_append, List.nil_append]
     have hpn := pow_bd ⟨n - a, by omega⟩
     dsimp only at hpn
     by_cases hlt2 : n < c
     ·have hpw : (2 : Int) ^ (n + 1 - a) = 2 ^ (n - a) * 2 := by rw [show n + 1 - a = (n - a) + 1 from by omega, Int.pow_succ]
      have hpc : (2 : Int) ^ (c - a) = 2 ^ (n - a) * 2 ^ (c - n) := by rw [← Int.pow_add]; congr 1; omega
      obtain ⟨z, hz2⟩ : ∃ z, (codO.getD j 0 + 1) * 2 ^ (n - a) = z := ⟨_, rfl⟩
      have hzb : 0 ≤ z ∧ z ≤ 2147483648 := zb_bd (c := c) (a := a) (n := n) hz2 hup hob hobj.1 hn1 hn2
      have hU := And.intro @hz2 ( And.intro @hs3 (@he))
      repeat' (first | (guard_target =~ PWp _ _ _ _ _ _ _; first | (refine pwp_seq_k (fun K hK => ?_)) | (refine pwp_block ?_) | (refine pwp_rg_then ?_) | (refine pwp_rg ?_) | (refine pwp_skip ?_) | ((refine pwp_cond_d (fun hcd => ?_) (fun hcd => ?_)) <;> (try simp only [hcP] at hcd) <;> (try exact cdT))) | (guard_target =~ rg _ _ _ _ _ _ _; first | (guard_target =~ rg _ _ _ [] _ _ _; first | (refine rg_end ?_)) | (refine rg_a rfl (h := ?_)) | (refine rg_v rfl (h := ?_)) | (refine rg_s rfl ?_)) | (guard_target =~ SOp _ _ _ _ _ _; first | (guard_target =~ SOp _ _ ⟨_, .indexAddr _ _ _, _, _, _, none⟩ _ _ _; first | (refine n_index rfl (hK := ?_)))) | (refine hK _ _ ?_; clear hK K))
      refine ⟨n + 1, ⟨by omega, by omega⟩, by omega, ?_, (by repeat' (first | exact agr_refl | refine agr_cons (by rfl) ?_)), (by first | rfl | (simp (disch := omega) only [go_sem, seval, ↓reduceIte, hU]; done) | (simp (disch := omega) only [go_sem, seval, ↓reduceIte, hU]; rfl))⟩
      (refine ⟨⟨_, sT, ?_⟩, ⟨_, sT, ?_⟩, trivial⟩ <;> (try (first | exact aleT)))
      all_goals exact ale_i (by rw [hpw, ← Int.mul_assoc, hz2]; omega)
     ·have hnc : n = c := by omega
      subst hnc
      have hco : (codO.getD j 0 + 1) * 2 ^ (n - a) = codO.getD (j + 1) 0 := hup.symm
      have hU := And.intro @hco ( And.intro @hs3 ( And.intro @he ( And.intro @hset (@hv0))))
      repeat' (first | (guard_target =~ PWp _ _ _ _ _ _ _; first | (refine pwp_seq_k (fun K hK => ?_)) | (refine pwp_rg_then ?_) | (refine pwp_rg ?_) | (refine pwp_exit ?_) | ((refine pwp_cond_d (fun hcd => ?_) (fun hcd => ?_)) <;> (try simp only [hcP] at hcd) <;> (try exact cdT))) | (guard_target =~ rg _ _ _ _ _ _ _; first | (guard_target =~ rg _ _ _ [] _ _ _; first | (refine rg_end ?_)) | (refine rg_a rfl (h := ?_)) | (refine rg_v rfl (h := ?_)) | (refine rg_s rfl ?_) | (refine rg_n rfl ?_)) | (guard_target =~ SOp _ _ _ _ _ _; first | (guard_target =~ SOp _ _ ⟨_, .indexAddr _ _ _, _, _, _, none⟩ _ _ _; first | (refine n_index rfl (hK := ?_)) | (refine n_index_row rfl (hK := ?_))) | (guard_target =~ SOp _ _ ⟨_, .store _ _ _, _, _, _, none⟩ _ _ _; first | (refine n_store_ep rfl (hK := ?_)))) | (refine hK _ _ ?_; clear hK K) | (apply_assumption (exfalso := false) (symm := false)))
      refine ⟨j + 1 + 1, by omega, by omega, ?_, (by repeat' (first | exact agr_refl | refine agr_cons (by rfl) ?_)), (by first | rfl | (simp (disch := omega) only [go_sem, seval, ↓reduceIte, hU]; done) | (simp (disch := omega) only [go_sem, seval, ↓reduceIte, hU]; rfl))⟩
      (refine ⟨⟨_, sT, ?_⟩, ⟨_, sT, ?_⟩, trivial⟩ <;> (try (first | exact aleT)))
      all_goals exact ale_i (cdB_s (j + 1)).symm
  ·have hi7 : i = 257 := by omega
   subst hi7
   have hall := outL_all
   have hU := @hall
   repeat' (first | (guard_target =~ PWp _ _ _ _ _ _ _; first | (refine pwp_seq_k (fun K hK => ?_)) | (refine pwp_rg_then ?_) | (refine pwp_ret ?_) | (refine pwp_exit ?_) | ((refine pwp_cond_d (fun hcd => ?_) (fun hcd => ?_)) <;> (try simp only [hcP] at hcd) <;> (try exact cdT))) | (guard_target =~ rg _ _ _ _ _ _ _; first | (guard_target =~ rg _ _ _ [] _ _ _; first | (refine rg_end ?_)) | (refine rg_a rfl (h := ?_)) | (refine rg_v rfl (h := ?_))) | (guard_target =~ (_ ∨ _) ∧ _; first | ((refine end_d [] (by rw [Tryd.results100, Lf.res1]) (ale_1 ?_) ?_) <;> (try (first | exact aleT | exact stq (by with_reducible rfl) | exact stq (by rfl) | exact stq (by simp (disch := omega) only [go_sem, seval, ↓reduceIte, hU]))))) | (refine hK _ _ ?_; clear hK K) | (apply_assumption (exfalso := false) (symm := false)))
end Go.Proofs.YtohbfcmmpaikhaaDoor

