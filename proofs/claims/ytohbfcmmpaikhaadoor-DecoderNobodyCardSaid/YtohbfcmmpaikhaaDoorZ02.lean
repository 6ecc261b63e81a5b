import Derived.Test.YtohbfcmmpaikhaaDoorZ01
import Derived.Test.YtohbfcmmpaikhaaDoorLc
import Derived.Test.YtohbfcmmpaikhaaDoorTy
import Derived.Laws.Strings
set_option linter.unusedVariables false
set_option linter.unusedSimpArgs false
namespace Go.Proofs.YtohbfcmmpaikhaaDoor
open Go Go.Lf Go.Proofs
attribute [local irreducible] Lf.rg Lf.ro Lf.PWp Lf.SOp Lf.ACall Lf.Scoped Lf.dg Lf.dw
set_option maxRecDepth 20000
set_option maxHeartbeats 4000000
theorem and127 : ∀ x : Fin 256, iand .u8 (x.val : Int) 127 = (x.val : Int) % 128 := by decide +kernel
def pgF (b : List UInt8) : Nat → Nat → Int → Int × Int × Int
  | 0, _, _ => (0, 0, 5)
  | k + 1, a, n => match b[a + 1]? with
    | none => (0, 0, 3)
    | some x => if (x.toNat : Int) < 128 then (if 2147483647 < n + (x.toNat : Int) % 128 * pwI (7 * (a : Int)) then (0, 0, 5) else (n + (x.toNat : Int) % 128 * pwI (7 * (a : Int)), (a : Int) + 2, 0)) else pgF b k (a + 1) (n + (x.toNat : Int) % 128 * pwI (7 * (a : Int)))
theorem pgF_0 {b : List UInt8} {a : Nat} {n : Int} : pgF b 0 a n = (0, 0, 5) := rfl
theorem pgF_none {b : List UInt8} {k a : Nat} {n : Int} (h : b[a + 1]? = none) : pgF b (k + 1) a n = (0, 0, 3) := by rw [pgF, h]
theorem pgF_big {b : List UInt8} {k a : Nat} {n : Int} {x : UInt8} (h : b[a + 1]? = some x) (h1 : (x.toNat : Int) < 128) (h2 : 2147483647 < n + (x.toNat : Int) % 128 * pwI (7 * (a : Int))) : pgF b (k + 1) a n = (0, 0, 5) := by
  rw [pgF, h]; dsimp only; rw [if_pos h1, if_pos h2]
theorem pgF_end {b : List UInt8} {k a : Nat} {n : Int} {x : UInt8} (h : b[a + 1]? = some x) (h1 : (x.toNat : Int) < 128) (h2 : ¬ 2147483647 < n + (x.toNat : Int) % 128 * pwI (7 * (a : Int))) : pgF b (k + 1) a n = (n + (x.toNat : Int) % 128 * pwI (7 * (a : Int)), (a : Int) + 2, 0) := by
  rw [pgF, h]; dsimp only; rw [if_pos h1, if_neg h2]
theorem pgF_more {b : List UInt8} {k a : Nat} {n : Int} {x : UInt8} (h : b[a + 1]? = some x) (h1 : ¬ (x.toNat : Int) < 128) : pgF b (k + 1) a n = pgF b k (a + 1) (n + (x.toNat : Int) % 128 * pwI (7 * (a : Int))) := by
  rw [pgF, h]; dsimp only; rw [if_neg h1]
def pgG (b : List UInt8) (c : Int) : Int × Int × Int := match b[0]? with
  | none => (0, 0, 3)
  | some x => if (x.toNat : Int) % pwI c < pwI c - 1 then ((x.toNat : Int) % pwI c, 1, 0) else pgF b 5 0 ((x.toNat : Int) % pwI c)
theorem pgG_none {b : List UInt8} {c : Int} (h : b[0]? = none) : pgG b c = (0, 0, 3) := by rw [pgG, h]
theorem pgG_lt {b : List UInt8} {c : Int} {x : UInt8} (h : b[0]? = some x) (h1 : (x.toNat : Int) % pwI c < pwI c - 1) : pgG b c = ((x.toNat : Int) % pwI c, 1, 0) := by rw [pgG, h]; dsimp only; rw [if_pos h1]
theorem pgG_ge {b : List UInt8} {c : Int} {x : UInt8} (h : b[0]? = some x) (h1 : ¬ (x.toNat : Int) % pwI c < pwI c - 1) : pgG b c = pgF b 5 0 ((x.toNat : Int) % pwI c) := by rw [pgG, h]; dsimp only; rw [if_neg h1]
theorem pw28 {a : Nat} (h : a ≤ 4) : 1 ≤ pwI (7 * (a : Int)) ∧ pwI (7 * (a : Int)) ≤ 268435456 := by
  obtain rfl | rfl | rfl | rfl | rfl : a = 0 ∨ a = 1 ∨ a = 2 ∨ a = 3 ∨ a = 4 := by omega
  all_goals decide
attribute [local irreducible] pwI pgF
theorem pget0 (f q : Bool) (b : List UInt8) (hb : b.length ≤ 1000000) (c : Int) (h1 : 1 ≤ c) (h8 : c ≤ 8) (rn rk re : Int) (htot : pgG b c = (rn, rk, re)) : AEq Tryd.prog 43 [.sl f q (b.map byteA), i64 c] [] (.tu [i64 rn, i64 rk, i64 re]) [] := by
  have hp := pwI_bd h1 h8
  by_cases hbe : b.length = 0
  · have hb0 : b[0]? = none := List.getElem?_eq_none (by omega)
    rw [pgG_none hb0] at htot
    obtain ⟨rfl, rfl, rfl⟩ : rn = 0 ∧ rk = 0 ∧ re = 3 := by simp only [Prod.mk.injEq] at htot; omega
    refine acall_body Tryd.func43 rfl Tryd.ntmps43 (by simp) (fun hsc => ?_); simp only [Lf.enter, Nat.reduceAdd]; clear hsc
    have hU := True.intro
    repeat' (first | (guard_target =~ PWp _ _ _ _ _ _ _; first | (refine pwp_seq_k (fun K hK => ?_)) | (refine pwp_rg_then ?_)) | (guard_target =~ rg _ _ _ _ _ _ _; first | (guard_target =~ rg _ _ _ [] _ _ _; first | (refine rg_end ?_)) | (refine rg_a rfl (h := ?_))) | (refine hK _ _ ?_; clear hK K))
    refine pwp_scope_k (S := Unit) 0 (fun _ => []) (fun _ => []) (fun _ => False) (fun _ => 0) (by rfl) (fun s hs => absurd hs id) (fun _ => ?_)
    repeat' (first | (guard_target =~ PWp _ _ _ _ _ _ _; first | (refine pwp_seq_k (fun K hK => ?_)) | (refine pwp_block ?_) | (refine pwp_rg_then ?_) | (refine pwp_ret ?_) | ((refine pwp_cond_d (fun hcd => ?_) (fun hcd => ?_)) <;> (try simp only [hcP] at hcd) <;> (try exact cdT))) | (guard_target =~ rg _ _ _ _ _ _ _; first | (guard_target =~ rg _ _ _ [] _ _ _; first | (refine rg_end ?_)) | (refine rg_a rfl (h := ?_)) | (refine rg_x rfl (hy := rfl) (h := ?_)) | (refine rg_v rfl (h := ?_)) | (refine rg_s rfl ?_)) | (guard_target =~ SOp _ _ _ _ _ _; first | (guard_target =~ SOp _ _ ⟨_, .call ⟨.value (.func 73), _, _⟩, _, _, _, none⟩ _ _ _; first | (refine n_call (f := 73) rfl Tryd.call73 (h := AEq.pure' agT (pfull _ (by assumption) (by assumption)) (hq := ?_))))) | (guard_target =~ (_ ∨ _) ∧ _; first | ((refine end_d [] (by rw [Tryd.results43, Lf.res3]) (ale_3 ?_ ?_ ?_) ?_) <;> (try (first | exact aleT | exact stq (by with_reducible rfl) | exact stq (by rfl) | exact stq (by simp (disch := omega) only [go_sem, seval, ↓reduceIte, hU]))))) | (refine hK _ _ ?_; clear hK K))
  · obtain ⟨x, hx⟩ := ex_at (l := b) (i := 0) (by omega)
    have hxl := x.toNat_lt
    have hand := pwI_and (n := (x.toNat : Int)) h1 h8 (by omega) (by omega)
    by_cases hlt : (x.toNat : Int) % pwI c < pwI c - 1
    · rw [pgG_lt hx hlt] at htot
      obtain ⟨rfl, rfl, rfl⟩ : rn = (x.toNat : Int) % pwI c ∧ rk = 1 ∧ re = 0 := by simp only [Prod.mk.injEq] at htot; omega
      refine acall_body Tryd.func43 rfl Tryd.ntmps43 (by simp) (fun hsc => ?_); simp only [Lf.enter, Nat.reduceAdd]; clear hsc
      have hU := @hand
      repeat' (first | (guard_target =~ PWp _ _ _ _ _ _ _; first | (refine pwp_seq_k (fun K hK => ?_)) | (refine pwp_rg_then ?_)) | (guard_target =~ rg _ _ _ _ _ _ _; first | (guard_target =~ rg _ _ _ [] _ _ _; first | (refine rg_end ?_)) | (refine rg_a rfl (h := ?_))) | (refine hK _ _ ?_; clear hK K))
      refine pwp_scope_k (S := Unit) 0 (fun _ => []) (fun _ => []) (fun _ => False) (fun _ => 0) (by rfl) (fun s hs => absurd hs id) (fun _ => ?_)
      repeat' (first | (guard_target =~ PWp _ _ _ _ _ _ _; first | (refine pwp_seq_k (fun K hK => ?_)) | (refine pwp_block ?_) | (refine pwp_rg_then ?_) | (refine pwp_ret ?_) | (refine pwp_skip ?_) | ((refine pwp_cond_d (fun hcd => ?_) (fun hcd => ?_)) <;> (try simp only [hcP] at hcd) <;> (try exact cdT))) | (guard_target =~ rg _ _ _ _ _ _ _; first | (guard_target =~ rg _ _ _ [] _ _ _; first | (refine rg_end ?_)) | (refine rg_a rfl (h := ?_)) | (refine rg_x rfl (hy := rfl) (h := ?_)) | (refine rg_v rfl (h := ?_)) | (refine rg_s rfl ?_)) | (guard_target =~ SOp _ _ _ _ _ _; first | (guard_target =~ SOp _ _ ⟨_, .indexAddr _ _ _, _, _, _, none⟩ _ _ _; first | (refine n_index rfl (hK := ?_))) | (guard_target =~ SOp _ _ ⟨_, .call ⟨.value (.func 73), _, _⟩, _, _, _, none⟩ _ _ _; first | (refine n_call (f := 73) rfl Tryd.call73 (h := AEq.pure' agT (pfull _ (by assumption) (by assumption)) (hq := ?_))))) | (guard_target =~ (_ ∨ _) ∧ _; first | ((refine end_d [] (by rw [Tryd.results43, Lf.res3]) (ale_3 ?_ ?_ ?_) ?_) <;> (try (first | exact aleT | exact stq (by with_reducible rfl) | exact stq (by rfl) | exact stq (by simp (disch := omega) only [go_sem, seval, ↓reduceIte, hU]))))) | (refine hK _ _ ?_; clear hK K))
    · rw [pgG_ge hx hlt] at htot
      have hm0 : 0 ≤ (x.toNat : Int) % pwI c := Int.emod_nonneg _ (by omega)
      have hm1 : (x.toNat : Int) % pwI c < pwI c := Int.emod_lt_of_pos _ (by omega)
      refine acall_body Tryd.func43 rfl Tryd.ntmps43 (by simp) (fun hsc => ?_); simp only [Lf.enter, Nat.reduceAdd]; clear hsc
      have hU := @hand
      repeat' (first | (guard_target =~ PWp _ _ _ _ _ _ _; first | (refine pwp_seq_k (fun K hK => ?_)) | (refine pwp_rg_then ?_)) | (guard_target =~ rg _ _ _ _ _ _ _; first | (guard_target =~ rg _ _ _ [] _ _ _; first | (refine rg_end ?_)) | (refine rg_a rfl (h := ?_))) | (refine hK _ _ ?_; clear hK K))
      refine pwp_scope_k (S := Nat × Int) 0 (fun s => [(0, .sl f q (b.map byteA)), (8, i64 s.1), (7, i64 s.2)]) (fun _ => []) (fun s => s.1 ≤ 5 ∧ s.1 + 1 ≤ b.length ∧ 0 ≤ s.2 ∧ s.2 ≤ 256 + 34359738368 * s.1 ∧ pgF b (5 - s.1) s.1 s.2 = (rn, rk, re)) (fun s => 5 - s.1) (by rfl) ?_ (fun hB => ?_)
      · rintro ⟨a, n⟩ ⟨ha, hab, hn0, hn1, htt⟩
        dsimp only at ha hab hn0 hn1 htt ⊢
        by_cases ha5 : a = 5
        · subst ha5
          rw [show 5 - 5 = 0 from rfl, pgF_0] at htt
          obtain ⟨rfl, rfl, rfl⟩ : rn = 0 ∧ rk = 0 ∧ re = 5 := by simp only [Prod.mk.injEq] at htt; omega
          have hU := True.intro
          repeat' (first | (guard_target =~ PWp _ _ _ _ _ _ _; first | (refine pwp_seq_k (fun K hK => ?_)) | (refine pwp_rg_then ?_) | (refine pwp_ret ?_) | ((refine pwp_cond_d (fun hcd => ?_) (fun hcd => ?_)) <;> (try simp only [hcP] at hcd) <;> (try exact cdT))) | (guard_target =~ rg _ _ _ _ _ _ _; first | (guard_target =~ rg _ _ _ [] _ _ _; first | (refine rg_end ?_)) | (refine rg_a rfl (h := ?_)) | (refine rg_v rfl (h := ?_))) | (guard_target =~ (_ ∨ _) ∧ _; first | ((refine end_d [] (by rw [Tryd.results43, Lf.res3]) (ale_3 ?_ ?_ ?_) ?_) <;> (try (first | exact aleT | exact stq (by with_reducible rfl) | exact stq (by rfl) | exact stq (by simp (disch := omega) only [go_sem, seval, ↓reduceIte, hU]))))) | (refine hK _ _ ?_; clear hK K))
        rw [show 5 - a = (5 - (a + 1)) + 1 from by omega] at htt
        by_cases hal : a + 1 = b.length
        · rw [pgF_none (List.getElem?_eq_none (by omega))] at htt
          obtain ⟨rfl, rfl, rfl⟩ : rn = 0 ∧ rk = 0 ∧ re = 3 := by simp only [Prod.mk.injEq] at htt; omega
          have hU := True.intro
          repeat' (first | (guard_target =~ PWp _ _ _ _ _ _ _; first | (refine pwp_seq_k (fun K hK => ?_)) | (refine pwp_rg_then ?_) | (refine pwp_ret ?_) | (refine pwp_skip ?_) | ((refine pwp_cond_d (fun hcd => ?_) (fun hcd => ?_)) <;> (try simp only [hcP] at hcd) <;> (try exact cdT))) | (guard_target =~ rg _ _ _ _ _ _ _; first | (guard_target =~ rg _ _ _ [] _ _ _; first | (refine rg_end ?_)) | (refine rg_a rfl (h := ?_)) | (refine rg_v rfl (h := ?_))) | (guard_target =~ (_ ∨ _) ∧ _; first | ((refine end_d [] (by rw [Tryd.results43, Lf.res3]) (ale_3 ?_ ?_ ?_) ?_) <;> (try (first | exact aleT | exact stq (by with_reducible rfl) | exact stq (by rfl) | exact stq (by simp (disch := omega) only [go_sem, seval, ↓reduceIte, hU]))))) | (refine hK _ _ ?_; clear hK K))
        obtain ⟨y, hy⟩ := ex_at (l := b) (i := a + 1) (by omega)
        have hyl := y.toNat_lt
        have hpa := pw28 (a := a) (by omega)
        have h127 := and127 ⟨y.toNat, hyl⟩
        dsimp only at h127
        have hmul : 0 ≤ (y.toNat : Int) % 128 * pwI (7 * (a : Int)) ∧ (y.toNat : Int) % 128 * pwI (7 * (a : Int)) ≤ 127 * 268435456 := ⟨Int.mul_nonneg (by omega) (by omega), Int.mul_le_mul (by omega) hpa.2 (by omega) (by omega)⟩
        have hshl : IntKind.i64.wrap ((y.toNat : Int) % 128 * 2 ^ (7 * ((a : Int) + 1 - 1)).toNat) = (y.toNat : Int) % 128 * pwI (7 * (a : Int)) := by
          rw [Int.add_sub_cancel]
          have e : (2 : Int) ^ (7 * (a : Int)).toNat = pwI (7 * (a : Int)) := by unfold pwI; rfl
          rw [e, w64 (by omega)]
        generalize hv : (y.toNat : Int) % 128 * pwI (7 * (a : Int)) = v at *
        by_cases hlt2 : (y.toNat : Int) < 128
        · by_cases hbig : 2147483647 < n + v
          · rw [pgF_big hy hlt2 (by rw [hv]; exact hbig)] at htt
            obtain ⟨rfl, rfl, rfl⟩ : rn = 0 ∧ rk = 0 ∧ re = 5 := by simp only [Prod.mk.injEq] at htt; omega
            have hU := And.intro @h127 (@hshl)
            repeat' (first | (guard_target =~ PWp _ _ _ _ _ _ _; first | (refine pwp_seq_k (fun K hK => ?_)) | (refine pwp_rg_then ?_) | (refine pwp_ret ?_) | (refine pwp_skip ?_) | ((refine pwp_cond_d (fun hcd => ?_) (fun hcd => ?_)) <;> (try simp only [hcP] at hcd) <;> (try exact cdT))) | (guard_target =~ rg _ _ _ _ _ _ _; first | (guard_target =~ rg _ _ _ [] _ _ _; first | (refine rg_end ?_)) | (refine rg_a rfl (h := ?_)) | (refine rg_v rfl (h := ?_)) | (refine rg_s rfl ?_)) | (guard_target =~ SOp _ _ _ _ _ _; first | (guard_target =~ SOp _ _ ⟨_, .indexAddr _ _ _, _, _, _, none⟩ _ _ _; first | (refine n_index rfl (hK := ?_)))) | (guard_target =~ (_ ∨ _) ∧ _; first | ((refine end_d [] (by rw [Tryd.results43, Lf.res3]) (ale_3 ?_ ?_ ?_) ?_) <;> (try (first | exact aleT | exact stq (by with_reducible rfl) | exact stq (by rfl) | exact stq (by simp (disch := omega) only [go_sem, seval, ↓reduceIte, hU]))))) | (refine hK _ _ ?_; clear hK K))
          · rw [pgF_end hy hlt2 (by rw [hv]; exact hbig), hv] at htt
            obtain ⟨rfl, rfl, rfl⟩ : rn = n + v ∧ rk = (a : Int) + 2 ∧ re = 0 := by simp only [Prod.mk.injEq] at htt; omega
            have hU := And.intro @h127 (@hshl)
            repeat' (first | (guard_target =~ PWp _ _ _ _ _ _ _; first | (refine pwp_seq_k (fun K hK => ?_)) | (refine pwp_rg_then ?_) | (refine pwp_ret ?_) | (refine pwp_skip ?_) | ((refine pwp_cond_d (fun hcd => ?_) (fun hcd => ?_)) <;> (try simp only [hcP] at hcd) <;> (try exact cdT))) | (guard_target =~ rg _ _ _ _ _ _ _; first | (guard_target =~ rg _ _ _ [] _ _ _; first | (refine rg_end ?_)) | (refine rg_a rfl (h := ?_)) | (refine rg_v rfl (h := ?_)) | (refine rg_s rfl ?_)) | (guard_target =~ SOp _ _ _ _ _ _; first | (guard_target =~ SOp _ _ ⟨_, .indexAddr _ _ _, _, _, _, none⟩ _ _ _; first | (refine n_index rfl (hK := ?_)))) | (guard_target =~ (_ ∨ _) ∧ _; first | ((refine end_d [] (by rw [Tryd.results43, Lf.res3]) (ale_3 ?_ ?_ ?_) ?_) <;> (try (first | exact aleT | exact stq (by with_reducible rfl) | exact stq (by rfl) | exact stq (by simp (disch := omega) only [go_sem, seval, ↓reduceIte, hU]))))) | (refine hK _ _ ?_; clear hK K))
        · rw [pgF_more hy hlt2, hv] at htt
          have hU := And.intro @h127 (@hshl)
          repeat' (first | (guard_target =~ PWp _ _ _ _ _ _ _; first | (refine pwp_seq_k (fun K hK => ?_)) | (refine pwp_rg_then ?_) | (refine pwp_skip ?_) | ((refine pwp_cond_d (fun hcd => ?_) (fun hcd => ?_)) <;> (try simp only [hcP] at hcd) <;> (try exact cdT)) | (refine pwp_goto ?_)) | (guard_target =~ rg _ _ _ _ _ _ _; first | (guard_target =~ rg _ _ _ [] _ _ _; first | (refine rg_end ?_)) | (refine rg_a rfl (h := ?_)) | (refine rg_v rfl (h := ?_)) | (refine rg_s rfl ?_)) | (guard_target =~ SOp _ _ _ _ _ _; first | (guard_target =~ SOp _ _ ⟨_, .indexAddr _ _ _, _, _, _, none⟩ _ _ _; first | (refine n_index rfl (hK := ?_)))) | (refine hK _ _ ?_; clear hK K) | (dsimp only [Lf.thenQ, Lf.blockQ]) | (dsimp only [jumpQ]) | (guard_target =~ (_ : Nat) = _ ∧ _; refine ⟨rfl, ?_⟩))
          refine ⟨(a + 1, n + v), [], ⟨by dsimp only; omega, by dsimp only; omega, by dsimp only; omega, by dsimp only; omega, htt⟩, by dsimp only; omega, rfl, ?_, ?_⟩
          · have hU := True.intro
            (refine ⟨⟨_, sT, ?_⟩, ⟨_, sT, ?_⟩, ⟨_, sT, ?_⟩, trivial⟩ <;> (try (first | exact aleT)))
          · rfl
      · repeat' (first | (guard_target =~ PWp _ _ _ _ _ _ _; first | (refine pwp_seq_k (fun K hK => ?_)) | (refine pwp_block ?_) | (refine pwp_rg_then ?_) | (refine pwp_skip ?_) | ((refine pwp_cond_d (fun hcd => ?_) (fun hcd => ?_)) <;> (try simp only [hcP] at hcd) <;> (try exact cdT))) | (guard_target =~ rg _ _ _ _ _ _ _; first | (guard_target =~ rg _ _ _ [] _ _ _; first | (refine rg_end ?_)) | (refine rg_a rfl (h := ?_)) | (refine rg_x rfl (hy := rfl) (h := ?_)) | (refine rg_v rfl (h := ?_)) | (refine rg_s rfl ?_)) | (guard_target =~ SOp _ _ _ _ _ _; first | (guard_target =~ SOp _ _ ⟨_, .indexAddr _ _ _, _, _, _, none⟩ _ _ _; first | (refine n_index rfl (hK := ?_))) | (guard_target =~ SOp _ _ ⟨_, .call ⟨.value (.func 73), _, _⟩, _, _, _, none⟩ _ _ _; first | (refine n_call (f := 73) rfl Tryd.call73 (h := AEq.pure' agT (pfull _ (by assumption) (by assumption)) (hq := ?_))))) | (refine hK _ _ ?_; clear hK K))
        refine pwp_label ?_
        dsimp only [Lf.thenQ]
        refine hK _ _ ?_
        refine hB _ _ (0, (x.toNat : Int) % pwI c) [] ⟨by dsimp only; omega, by dsimp only; omega, hm0, by dsimp only; omega, htot⟩ rfl ?_ ?_
        · have hU := True.intro
          (refine ⟨⟨_, sT, ?_⟩, ⟨_, sT, ?_⟩, ⟨_, sT, ?_⟩, trivial⟩ <;> (try (first | exact aleT)))
        · rfl
theorem pget (f q : Bool) (b : List UInt8) (hb : b.length ≤ 1000000) (c : Int) (h1 : 1 ≤ c) (h8 : c ≤ 8) : AEq Tryd.prog 43 [.sl f q (b.map byteA), i64 c] [] (.tu [i64 (pgG b c).1, i64 (pgG b c).2.1, i64 (pgG b c).2.2]) [] := pget0 f q b hb c h1 h8 _ _ _ rfl
theorem rget18_0 (f q : Bool) (b : List UInt8) (hb : b.length ≤ 1000000) (c : Int) (h1 : 1 ≤ c) (h8 : c ≤ 8) (rn rk re : Int) (htot : pgG b c = (rn, rk, re)) : AEq Tryd.prog 48 [.sl f q (b.map byteA), i64 c] [] (.tu [i64 rn, i64 rk, i64 re]) [] := by
  have hp := pwI_bd h1 h8
  by_cases hbe : b.length = 0
  · have hb0 : b[0]? = none := List.getElem?_eq_none (by omega)
    rw [pgG_none hb0] at htot
    obtain ⟨rfl, rfl, rfl⟩ : rn = 0 ∧ rk = 0 ∧ re = 3 := by simp only [Prod.mk.injEq] at htot; omega
    refine acall_body Tryd.func48 rfl Tryd.ntmps48 (by simp) (fun hsc => ?_); simp only [Lf.enter, Nat.reduceAdd]; clear hsc
    have hU := True.intro
    repeat' (first | (guard_target =~ PWp _ _ _ _ _ _ _; first | (refine pwp_seq_k (fun K hK => ?_)) | (refine pwp_rg_then ?_) | (refine pwp_ret ?_) | (refine pwp_skip ?_) | ((refine pwp_cond_d (fun hcd => ?_) (fun hcd => ?_)) <;> (try simp only [hcP] at hcd) <;> (try exact cdT))) | (guard_target =~ rg _ _ _ _ _ _ _; first | (guard_target =~ rg _ _ _ (⟨_, .move _, _, _, _, some _⟩ :: _) _ _ _; first | (refine rg_gq rfl (h := ?_))) | (guard_target =~ rg _ _ _ (⟨_, .binOp _ _ _ _ _, _, _, _, some _⟩ :: _) _ _ _; first | (refine rg_gq rfl (h := ?_))) | (guard_target =~ rg _ _ _ [] _ _ _; first | (refine rg_end ?_)) | (refine rg_a rfl (h := ?_)) | (refine rg_v rfl (h := ?_))) | (guard_target =~ (_ ∨ _) ∧ _; first | ((refine end_d [] (by rw [Tryd.results48, Lf.res3]) (ale_3 ?_ ?_ ?_) ?_) <;> (try (first | exact aleT | exact stq (by with_reducible rfl) | exact stq (by rfl) | exact stq (by simp (disch := omega) only [go_sem, seval, ↓reduceIte, hU]))))) | (refine hK _ _ ?_; clear hK K))
  · obtain ⟨x, hx⟩ := ex_at (l := b) (i := 0) (by omega)
    have hxl := x.toNat_lt
    have hful : pwI c - 1 + 1 = pwI c := by omega
    by_cases hlt : (x.toNat : Int) % pwI c < pwI c - 1
    · rw [pgG_lt hx hlt] at htot
      obtain ⟨rfl, rfl, rfl⟩ : rn = (x.toNat : Int) % pwI c ∧ rk = 1 ∧ re = 0 := by simp only [Prod.mk.injEq] at htot; omega
      refine acall_body Tryd.func48 rfl Tryd.ntmps48 (by simp) (fun hsc => ?_); simp only [Lf.enter, Nat.reduceAdd]; clear hsc
      have hU := @hful
      repeat' (first | (guard_target =~ PWp _ _ _ _ _ _ _; first | (refine pwp_seq_k (fun K hK => ?_)) | (refine pwp_rg_then ?_) | (refine pwp_ret ?_) | (refine pwp_skip ?_) | ((refine pwp_cond_d (fun hcd => ?_) (fun hcd => ?_)) <;> (try simp only [hcP] at hcd) <;> (try exact cdT))) | (guard_target =~ rg _ _ _ _ _ _ _; first | (guard_target =~ rg _ _ _ (⟨_, .move _, _, _, _, some _⟩ :: _) _ _ _; first | (refine rg_gq rfl (h := ?_))) | (guard_target =~ rg _ _ _ (⟨_, .binOp _ _ _ _ _, _, _, _, some _⟩ :: _) _ _ _; first | (refine rg_gq rfl (h := ?_))) | (guard_target =~ rg _ _ _ [] _ _ _; first | (refine rg_end ?_)) | (refine rg_a rfl (h := ?_)) | (refine rg_v rfl (h := ?_)) | (refine rg_s rfl ?_)) | (guard_target =~ SOp _ _ _ _ _ _; first | (guard_target =~ SOp _ _ ⟨_, .indexAddr _ _ _, _, _, _, none⟩ _ _ _; first | (refine n_index rfl (hK := ?_))) | (guard_target =~ SOp _ _ ⟨_, .call ⟨.value (.func 75), _, _⟩, _, _, _, none⟩ _ _ _; first | (refine n_call (f := 75) rfl Tryd.call75 (h := AEq.pure' agT (rpower _ (by omega) (by omega)) (hq := ?_))))) | (guard_target =~ (_ ∨ _) ∧ _; first | ((refine end_d [] (by rw [Tryd.results48, Lf.res3]) (ale_3 ?_ ?_ ?_) ?_) <;> (try (first | exact aleT | exact stq (by with_reducible rfl) | exact stq (by rfl) | exact stq (by simp (disch := omega) only [go_sem, seval, ↓reduceIte, hU]))))) | (refine hK _ _ ?_; clear hK K))
    · rw [pgG_ge hx hlt] at htot
      have hm0 : 0 ≤ (x.toNat : Int) % pwI c := Int.emod_nonneg _ (by omega)
      have hm1 : (x.toNat : Int) % pwI c < pwI c := Int.emod_lt_of_pos _ (by omega)
      refine acall_body Tryd.func48 rfl Tryd.ntmps48 (by simp) (fun hsc => ?_); simp only [Lf.enter, Nat.reduceAdd]; clear hsc
      have hU := @hful
      repeat' (first | (guard_target =~ PWp _ _ _ _ _ _ _; first | (refine pwp_seq_k (fun K hK => ?_)) | (refine pwp_block ?_) | (refine pwp_rg_then ?_) | (refine pwp_skip ?_) | ((refine pwp_cond_d (fun hcd => ?_) (fun hcd => ?_)) <;> (try simp only [hcP] at hcd) <;> (try exact cdT))) | (guard_target =~ rg _ _ _ _ _ _ _; first | (guard_target =~ rg _ _ _ (⟨_, .move _, _, _, _, some _⟩ :: _) _ _ _; first | (refine rg_gq rfl (h := ?_))) | (guard_target =~ rg _ _ _ (⟨_, .binOp _ _ _ _ _, _, _, _, some _⟩ :: _) _ _ _; first | (refine rg_gq rfl (h := ?_))) | (guard_target =~ rg _ _ _ [] _ _ _; first | (refine rg_end ?_)) | (refine rg_a rfl (h := ?_)) | (refine rg_v rfl (h := ?_)) | (refine rg_s rfl ?_)) | (guard_target =~ SOp _ _ _ _ _ _; first | (guard_target =~ SOp _ _ ⟨_, .indexAddr _ _ _, _, _, _, none⟩ _ _ _; first | (refine n_index rfl (hK := ?_))) | (guard_target =~ SOp _ _ ⟨_, .call ⟨.value (.func 75), _, _⟩, _, _, _, none⟩ _ _ _; first | (refine n_call (f := 75) rfl Tryd.call75 (h := AEq.pure' agT (rpower _ (by omega) (by omega)) (hq := ?_))))) | (refine hK _ _ ?_; clear hK K))
      refine pwp_loop_e [4, 5, 6, 8, 9, 33, 34, 35, 36, 37, 38, 39, 40, 41, 42, 43, 44, 45, 46, 47, 48, 49, 50, 51, 52, 53, 54, 55, 56, 57, 58, 59, 60, 61, 62, 63] (fun s : Nat × Int => [(9, i64 ((s.1 : Int) + 1)), (8, i64 s.2)]) (fun s => []) (fun s => s.1 ≤ 5 ∧ (s.1 = 0 ∨ s.1 + 1 ≤ b.length) ∧ 0 ≤ s.2 ∧ s.2 ≤ 256 + 34359738368 * s.1 ∧ pgF b (5 - s.1) s.1 s.2 = (rn, rk, re)) (fun s => 5 - s.1) (0, (x.toNat : Int) % pwI c) ⟨by dsimp only; omega, .inl rfl, hm0, by dsimp only; omega, htot⟩ ?_ rfl ?_
      · dsimp only
        have hU := True.intro
        (refine ⟨⟨_, sT, ?_⟩, ⟨_, sT, ?_⟩, trivial⟩ <;> (try (first | exact aleT)))
      · rintro ⟨a, n⟩ ⟨ha, hab, hn0, hn1, htt⟩
        dsimp only at ha hab hn0 hn1 htt ⊢
        simp only [mask, List.map_cons, List.map_nil, List.cons_append, List.nil_append]
        by_cases ha5 : a = 5
        · subst ha5
          rw [show 5 - 5 = 0 from rfl, pgF_0] at htt
          obtain ⟨rfl, rfl, rfl⟩ : rn = 0 ∧ rk = 0 ∧ re = 5 := by simp only [Prod.mk.injEq] at htt; omega
          have hU := True.intro
          repeat' (first | (guard_target =~ PWp _ _ _ _ _ _ _; first | (refine pwp_seq_k (fun K hK => ?_)) | (refine pwp_rg_then ?_) | (refine pwp_ret ?_) | (refine pwp_exit ?_) | ((refine pwp_cond_d (fun hcd => ?_) (fun hcd => ?_)) <;> (try simp only [hcP] at hcd) <;> (try exact cdT))) | (guard_target =~ rg _ _ _ _ _ _ _; first | (guard_target =~ rg _ _ _ [] _ _ _; first | (refine rg_end ?_)) | (refine rg_a rfl (h := ?_)) | (refine rg_v rfl (h := ?_))) | (guard_target =~ (_ ∨ _) ∧ _; first | ((refine end_d [] (by rw [Tryd.results48, Lf.res3]) (ale_3 ?_ ?_ ?_) ?_) <;> (try (first | exact aleT | exact stq (by with_reducible rfl) | exact stq (by rfl) | exact stq (by simp (disch := omega) only [go_sem, seval, ↓reduceIte, hU]))))) | (refine hK _ _ ?_; clear hK K) | (apply_assumption (exfalso := false) (symm := false)))
        rw [show 5 - a = (5 - (a + 1)) + 1 from by omega] at htt
        by_cases hal : a + 1 = b.length
        · rw [pgF_none (List.getElem?_eq_none (by omega))] at htt
          obtain ⟨rfl, rfl, rfl⟩ : rn = 0 ∧ rk = 0 ∧ re = 3 := by simp only [Prod.mk.injEq] at htt; omega
          have hU := True.intro
          repeat' (first | (guard_target =~ PWp _ _ _ _ _ _ _; first | (refine pwp_seq_k (fun K hK => ?_)) | (refine pwp_block ?_) | (refine pwp_rg_then ?_) | (refine pwp_ret ?_) | (refine pwp_skip ?_) | ((refine pwp_cond_d (fun hcd => ?_) (fun hcd => ?_)) <;> (try simp only [hcP] at hcd) <;> (try exact cdT))) | (guard_target =~ rg _ _ _ _ _ _ _; first | (guard_target =~ rg _ _ _ [] _ _ _; first | (refine rg_end ?_)) | (refine rg_a rfl (h := ?_)) | (refine rg_v rfl (h := ?_))) | (guard_target =~ (_ ∨ _) ∧ _; first | ((refine end_d [] (by rw [Tryd.results48, Lf.res3]) (ale_3 ?_ ?_ ?_) ?_) <;> (try (first | exact aleT | exact stq (by with_reducible rfl) | exact stq (by rfl) | exact stq (by simp (disch := omega) only [go_sem, seval, ↓reduceIte, hU]))))) | (refine hK _ _ ?_; clear hK K))
        obtain ⟨y, hy⟩ := ex_at (l := b) (i := a + 1) (by omega)
        have hyl := y.toNat_lt
        have hpa := pw28 (a := a) (by omega)
        have h7 : pwI (7 * ((a : Int) + 1 - 1)) = pwI (7 * (a : Int)) := by rw [Int.add_sub_cancel]
        have hmul : 0 ≤ (y.toNat : Int) % 128 * pwI (7 * (a : Int)) ∧ (y.toNat : Int) % 128 * pwI (7 * (a : Int)) ≤ 127 * 268435456 := ⟨Int.mul_nonneg (by omega) (by omega), Int.mul_le_mul (by omega) hpa.2 (by omega) (by omega)⟩
        generalize hv : (y.toNat : Int) % 128 * pwI (7 * (a : Int)) = v at *
        by_cases hlt2 : (y.toNat : Int) < 128
        · by_cases hbig : 2147483647 < n + v
          · rw [pgF_big hy hlt2 (by rw [hv]; exact hbig)] at htt
            obtain ⟨rfl, rfl, rfl⟩ : rn = 0 ∧ rk = 0 ∧ re = 5 := by simp only [Prod.mk.injEq] at htt; omega
            have hU := And.intro @h7 (@hv)
            repeat' (first | (guard_target =~ PWp _ _ _ _ _ _ _; first | (refine pwp_draw_ord (id := 14) [0, 1, 2, 3, 4, 5, 6, 7, 8, 9, 10, 11, 12, 13] [] mixed (by kernel_rfl) (by kernel_rfl) ?_) | (refine pwp_seq_k (fun K hK => ?_)) | (refine pwp_block ?_) | (refine pwp_rg_then ?_) | (refine pwp_ret ?_) | (refine pwp_skip ?_) | ((refine pwp_cond_d (fun hcd => ?_) (fun hcd => ?_)) <;> (try simp only [hcP] at hcd) <;> (try exact cdT))) | (guard_target =~ rg _ _ _ _ _ _ _; first | (guard_target =~ rg _ _ _ [] _ _ _; first | (refine rg_end ?_)) | (refine rg_a rfl (h := ?_)) | (refine rg_v rfl (h := ?_)) | (refine rg_s rfl ?_)) | (guard_target =~ SOp _ _ _ _ _ _; first | (guard_target =~ SOp _ _ ⟨_, .indexAddr _ _ _, _, _, _, none⟩ _ _ _; first | (refine n_index rfl (hK := ?_)))) | (guard_target =~ dw _ _ _ _ _ _ _ _ _ _; first | ((first | guard_target =~ dw _ _ _ _ _ (0 :: _) _ _ _ _ | guard_target =~ dw _ _ _ _ _ (1 :: _) _ _ _ _ | guard_target =~ dw _ _ _ _ _ (2 :: _) _ _ _ _ | guard_target =~ dw _ _ _ _ _ (7 :: _) _ _ _ _); first | (refine dw_p rfl rfl (h := (fun τ => ro_v rfl (h := ro_end ⟨rfl, rfl⟩))) (hk := ?_))) | (guard_target =~ dw _ _ _ _ _ (3 :: _) _ _ _ _; first | (refine dw_p rfl rfl (h := (fun τ => ro_s (h := n_index rfl (hK := ro_end ⟨rfl, rfl⟩)))) (hk := ?_))) | (guard_target =~ dw _ _ _ _ _ (4 :: _) _ _ _ _; first | (refine dw_p rfl rfl (h := (fun τ => ro_v rfl (h := ro_end ⟨rfl, rfl⟩))) (hk := ?_))) | (guard_target =~ dw _ _ _ _ _ (5 :: _) _ _ _ _; first | (refine dw_p rfl rfl (h := (fun τ => ro_v rfl (h := ro_end ⟨rfl, rfl⟩))) (hk := ?_))) | ((first | guard_target =~ dw _ _ _ _ _ (6 :: _) _ _ _ _ | guard_target =~ dw _ _ _ _ _ (8 :: _) _ _ _ _ | guard_target =~ dw _ _ _ _ _ (9 :: _) _ _ _ _ | guard_target =~ dw _ _ _ _ _ (11 :: _) _ _ _ _ | guard_target =~ dw _ _ _ _ _ (12 :: _) _ _ _ _); first | (refine dw_p rfl rfl (h := (fun τ => ro_v rfl (h := ro_end ⟨rfl, rfl⟩))) (hk := ?_))) | (guard_target =~ dw _ _ _ _ _ (10 :: _) _ _ _ _; first | (refine dw_p rfl rfl (h := (fun τ => ro_s (h := n_call (f := 75) rfl Tryd.call75 (h := AEq.pure' agT (rpower _ (by omega) (by omega)) (hq := ro_end ⟨rfl, rfl⟩))))) (hk := ?_))) | (guard_target =~ dw _ _ _ _ _ (13 :: _) _ _ _ _; first | (refine dw_p rfl rfl (h := (fun τ => ro_a rfl (h := ro_end ⟨rfl, rfl⟩))) (hk := ?_))) | (guard_target =~ dw _ _ _ _ _ [] _ _ _ _; first | (refine dw_nil ?_))) | (guard_target =~ (_ ∨ _) ∧ _; first | ((refine end_d [] (by rw [Tryd.results48, Lf.res3]) (ale_3 ?_ ?_ ?_) ?_) <;> (try (first | exact aleT | exact stq (by with_reducible rfl) | exact stq (by rfl) | exact stq (by simp (disch := omega) only [go_sem, seval, ↓reduceIte, hU]))))) | (refine hK _ _ ?_; clear hK K))
          · rw [pgF_end hy hlt2 (by rw [hv]; exact hbig), hv] at htt
            obtain ⟨rfl, rfl, rfl⟩ : rn = n + v ∧ rk = (a : Int) + 2 ∧ re = 0 := by simp only [Prod.mk.injEq] at htt; omega
            have hU := And.intro @h7 (@hv)
            repeat' (first | (guard_target =~ PWp _ _ _ _ _ _ _; first | (refine pwp_draw_ord (id := 14) [0, 1, 2, 3, 4, 5, 6, 7, 8, 9, 10, 11, 12, 13] [] mixed (by kernel_rfl) (by kernel_rfl) ?_) | (refine pwp_seq_k (fun K hK => ?_)) | (refine pwp_block ?_) | (refine pwp_rg_then ?_) | (refine pwp_ret ?_) | (refine pwp_skip ?_) | ((refine pwp_cond_d (fun hcd => ?_) (fun hcd => ?_)) <;> (try simp only [hcP] at hcd) <;> (try exact cdT))) | (guard_target =~ rg _ _ _ _ _ _ _; first | (guard_target =~ rg _ _ _ [] _ _ _; first | (refine rg_end ?_)) | (refine rg_a rfl (h := ?_)) | (refine rg_v rfl (h := ?_)) | (refine rg_s rfl ?_)) | (guard_target =~ SOp _ _ _ _ _ _; first | (guard_target =~ SOp _ _ ⟨_, .indexAddr _ _ _, _, _, _, none⟩ _ _ _; first | (refine n_index rfl (hK := ?_)))) | (guard_target =~ dw _ _ _ _ _ _ _ _ _ _; first | ((first | guard_target =~ dw _ _ _ _ _ (0 :: _) _ _ _ _ | guard_target =~ dw _ _ _ _ _ (1 :: _) _ _ _ _ | guard_target =~ dw _ _ _ _ _ (2 :: _) _ _ _ _ | guard_target =~ dw _ _ _ _ _ (7 :: _) _ _ _ _); first | (refine dw_p rfl rfl (h := (fun τ => ro_v rfl (h := ro_end ⟨rfl, rfl⟩))) (hk := ?_))) | (guard_target =~ dw _ _ _ _ _ (3 :: _) _ _ _ _; first | (refine dw_p rfl rfl (h := (fun τ => ro_s (h := n_index rfl (hK := ro_end ⟨rfl, rfl⟩)))) (hk := ?_))) | (guard_target =~ dw _ _ _ _ _ (4 :: _) _ _ _ _; first | (refine dw_p rfl rfl (h := (fun τ => ro_v rfl (h := ro_end ⟨rfl, rfl⟩))) (hk := ?_))) | (guard_target =~ dw _ _ _ _ _ (5 :: _) _ _ _ _; first | (refine dw_p rfl rfl (h := (fun τ => ro_v rfl (h := ro_end ⟨rfl, rfl⟩))) (hk := ?_))) | ((first | guard_target =~ dw _ _ _ _ _ (6 :: _) _ _ _ _ | guard_target =~ dw _ _ _ _ _ (8 :: _) _ _ _ _ | guard_target =~ dw _ _ _ _ _ (9 :: _) _ _ _ _ | guard_target =~ dw _ _ _ _ _ (11 :: _) _ _ _ _ | guard_target =~ dw _ _ _ _ _ (12 :: _) _ _ _ _); first | (refine dw_p rfl rfl (h := (fun τ => ro_v rfl (h := ro_end ⟨rfl, rfl⟩))) (hk := ?_))) | (guard_target =~ dw _ _ _ _ _ (10 :: _) _ _ _ _; first | (refine dw_p rfl rfl (h := (fun τ => ro_s (h := n_call (f := 75) rfl Tryd.call75 (h := AEq.pure' agT (rpower _ (by omega) (by omega)) (hq := ro_end ⟨rfl, rfl⟩))))) (hk := ?_))) | (guard_target =~ dw _ _ _ _ _ (13 :: _) _ _ _ _; first | (refine dw_p rfl rfl (h := (fun τ => ro_a rfl (h := ro_end ⟨rfl, rfl⟩))) (hk := ?_))) | (guard_target =~ dw _ _ _ _ _ [] _ _ _ _; first | (refine dw_nil ?_))) | (guard_target =~ (_ ∨ _) ∧ _; first | ((refine end_d [] (by rw [Tryd.results48, Lf.res3]) (ale_3 ?_ ?_ ?_) ?_) <;> (try (first | exact aleT | exact stq (by with_reducible rfl) | exact stq (by rfl) | exact stq (by simp (disch := omega) only [go_sem, seval, ↓reduceIte, hU]))))) | (refine hK _ _ ?_; clear hK K))
        · rw [pgF_more hy hlt2, hv] at htt
          have hU := And.intro @h7 (@hv)
          repeat' (first | (guard_target =~ PWp _ _ _ _ _ _ _; first | (refine pwp_draw_ord (id := 14) [0, 1, 2, 3, 4, 5, 6, 7, 8, 9, 10, 11, 12, 13] [] mixed (by kernel_rfl) (by kernel_rfl) ?_) | (refine pwp_seq_k (fun K hK => ?_)) | (refine pwp_block ?_) | (refine pwp_rg_then ?_) | (refine pwp_skip ?_) | ((refine pwp_cond_d (fun hcd => ?_) (fun hcd => ?_)) <;> (try simp only [hcP] at hcd) <;> (try exact cdT))) | (guard_target =~ rg _ _ _ _ _ _ _; first | (guard_target =~ rg _ _ _ [] _ _ _; first | (refine rg_end ?_)) | (refine rg_a rfl (h := ?_)) | (refine rg_v rfl (h := ?_)) | (refine rg_s rfl ?_)) | (guard_target =~ SOp _ _ _ _ _ _; first | (guard_target =~ SOp _ _ ⟨_, .indexAddr _ _ _, _, _, _, none⟩ _ _ _; first | (refine n_index rfl (hK := ?_)))) | (guard_target =~ dw _ _ _ _ _ _ _ _ _ _; first | ((first | guard_target =~ dw _ _ _ _ _ (0 :: _) _ _ _ _ | guard_target =~ dw _ _ _ _ _ (1 :: _) _ _ _ _ | guard_target =~ dw _ _ _ _ _ (2 :: _) _ _ _ _ | guard_target =~ dw _ _ _ _ _ (7 :: _) _ _ _ _); first | (refine dw_p rfl rfl (h := (fun τ => ro_v rfl (h := ro_end ⟨rfl, rfl⟩))) (hk := ?_))) | (guard_target =~ dw _ _ _ _ _ (3 :: _) _ _ _ _; first | (refine dw_p rfl rfl (h := (fun τ => ro_s (h := n_index rfl (hK := ro_end ⟨rfl, rfl⟩)))) (hk := ?_))) | (guard_target =~ dw _ _ _ _ _ (4 :: _) _ _ _ _; first | (refine dw_p rfl rfl (h := (fun τ => ro_v rfl (h := ro_end ⟨rfl, rfl⟩))) (hk := ?_))) | (guard_target =~ dw _ _ _ _ _ (5 :: _) _ _ _ _; first | (refine dw_p rfl rfl (h := (fun τ => ro_v rfl (h := ro_end ⟨rfl, rfl⟩))) (hk := ?_))) | ((first | guard_target =~ dw _ _ _ _ _ (6 :: _) _ _ _ _ | guard_target =~ dw _ _ _ _ _ (8 :: _) _ _ _ _ | guard_target =~ dw _ _ _ _ _ (9 :: _) _ _ _ _ | guard_target =~ dw _ _ _ _ _ (11 :: _) _ _ _ _ | guard_target =~ dw _ _ _ _ _ (12 :: _) _ _ _ _); first | (refine dw_p rfl rfl (h := (fun τ => ro_v rfl (h := ro_end ⟨rfl, rfl⟩))) (hk := ?_))) | (guard_target =~ dw _ _ _ _ _ (10 :: _) _ _ _ _; first | (refine dw_p rfl rfl (h := (fun τ => ro_s (h := n_call (f := 75) rfl Tryd.call75 (h := AEq.pure' agT (rpower _ (by omega) (by omega)) (hq := ro_end ⟨rfl, rfl⟩))))) (hk := ?_))) | (guard_target =~ dw _ _ _ _ _ (13 :: _) _ _ _ _; first | (refine dw_p rfl rfl (h := (fun τ => ro_a rfl (h := ro_end ⟨rfl, rfl⟩))) (hk := ?_))) | (guard_target =~ dw _ _ _ _ _ [] _ _ _ _; first | (refine dw_nil ?_))) | (refine hK _ _ ?_; clear hK K))
          have hU := True.intro
          refine ⟨(a + 1, n + v), ⟨by dsimp only; omega, .inr (by dsimp only; omega), by dsimp only; omega, by dsimp only; omega, htt⟩, by dsimp only; omega, ?_, (by repeat' (first | exact agr_refl | refine agr_cons (by rfl) ?_)), (by first | rfl | (simp (disch := omega) only [go_sem, seval, ↓reduceIte, hU]; done) | (simp (disch := omega) only [go_sem, seval, ↓reduceIte, hU]; rfl))⟩
          dsimp only
          (refine ⟨⟨_, sT, ?_⟩, ⟨_, sT, ?_⟩, trivial⟩ <;> (try (first | exact aleT)))
theorem rget18 (f q : Bool) (b : List UInt8) (hb : b.length ≤ 1000000) (c : Int) (h1 : 1 ≤ c) (h8 : c ≤ 8) : AEq Tryd.prog 48 [.sl f q (b.map byteA), i64 c] [] (.tu [i64 (pgG b c).1, i64 (pgG b c).2.1, i64 (pgG b c).2.2]) [] := rget18_0 f q b hb c h1 h8 _ _ _ rfl
end Go.Proofs.YtohbfcmmpaikhaaDoor

set_option linter.unusedVariables false
set_option linter.unusedSimpArgs false
namespace Go.Proofs.YtohbfcmmpaikhaaDoor
open Go Go.Lf Go.Proofs
attribute [local irreducible] Lf.rg Lf.ro Lf.PWp Lf.SOp Lf.ACall Lf.Scoped Lf.dg
set_option maxRecDepth 20000
set_option maxHeartbeats 4000000
/-! what is put is got -/
theorem pw7p (a : Nat) : 1 ≤ pwI (7 * (a : Int)) := by
  unfold pwI
  have e : ((2 : Int) ^ (7 * (a : Int)).toNat) = ((2 ^ (7 * (a : Int)).toNat : Nat) : Int) := by simp
  rw [e]
  have := Nat.pow_pos (n := (7 * (a : Int)).toNat) (show 0 < 2 by decide)
  omega
end Go.Proofs.YtohbfcmmpaikhaaDoor

set_option linter.unusedVariables false
set_option linter.unusedSimpArgs false
namespace Go.Proofs.YtohbfcmmpaikhaaDoor
open Go Go.Lf Go.Proofs
attribute [local irreducible] Lf.rg Lf.ro Lf.PWp Lf.SOp Lf.ACall Lf.Scoped Lf.dg Lf.dw
set_option maxRecDepth 20000
set_option maxHeartbeats 4000000
section
variable {P : Program} {N : Nat} {o : Oper} {Γ : Env} {σ : Sto} {K : AV → Sto → Prop} {x y : Operand} {ts : Array TypeId} {k k' : IntKind} {a b : Int}
theorem n_max_l (ho : o.op = .call { callee := .builtin .max, args := #[x, y], argTypes := ts }) (hx : ev Γ x = .lit (.int k a)) (hy : ev Γ y = .lit (.int k' b)) (h : b ≤ a) (hK : K (.lit (.int k a)) σ) : SOp P N o Γ σ K := by
  refine SOp.pure (.lit (.int k a)) (fun ρ w ac hf hr => ⟨.int k a, ?_, rfl⟩) hK
  have e1 := hf.lit hx
  have e2 := hf.lit hy
  have h2 : ¬ b > a := by omega
  simp [execOp, ho, resolve, invoke, builtin, Builtin.max_, Builtin.max2, e1, e2, h2]
theorem n_max_r (ho : o.op = .call { callee := .builtin .max, args := #[x, y], argTypes := ts }) (hx : ev Γ x = .lit (.int k a)) (hy : ev Γ y = .lit (.int k' b)) (h : a ≤ b) (hK : K (.lit (.int k b)) σ) : SOp P N o Γ σ K := by
  refine SOp.pure (.lit (.int k b)) (fun ρ w ac hf hr => ⟨.int k b, ?_, rfl⟩) hK
  have e1 := hf.lit hx
  have e2 := hf.lit hy
  by_cases h2 : b > a
  · simp [execOp, ho, resolve, invoke, builtin, Builtin.max_, Builtin.max2, e1, e2, h2]
  · obtain rfl : a = b := by omega
    simp [execOp, ho, resolve, invoke, builtin, Builtin.max_, Builtin.max2, e1, e2]
theorem n_max_m (ho : o.op = .call { callee := .builtin .max, args := #[x, y], argTypes := ts }) (hx : ev Γ x = .lit (.int k a)) (hy : ev Γ y = .lit (.int k b)) (hK : K (.lit (.int k (max a b))) σ) : SOp P N o Γ σ K := by
  by_cases h : b ≤ a
  · rw [show max a b = a from by omega] at hK
    exact n_max_l ho hx hy h hK
  · rw [show max a b = b from by omega] at hK
    exact n_max_r ho hx hy (by omega) hK
end
end Go.Proofs.YtohbfcmmpaikhaaDoor

set_option linter.unusedVariables false
set_option linter.unusedSimpArgs false
namespace Go.Proofs.YtohbfcmmpaikhaaDoor
open Go Go.Lf Go.Proofs
attribute [local irreducible] Lf.rg Lf.ro Lf.PWp Lf.SOp Lf.ACall Lf.Scoped Lf.dg Lf.dw
set_option maxRecDepth 20000
set_option maxHeartbeats 4000000
/-! the greater of two by n_max_m -/
def slB (s : Bool) (l : List UInt8) : List UInt8 := if s then rowB (encL l) else l
def slF (s : Bool) : Int := if s then 128 else 0
def slP (s : Bool) (l : List UInt8) : List UInt8 := pfxP (slF s) 7 ((slB s l).length : Int) ++ slB s l
theorem and128 : ∀ x : Fin 256, iand .u8 (x.val : Int) 128 = if (x.val : Int) < 128 then 0 else 128 := by decide +kernel
theorem and128_lo {x : UInt8} (h : (x.toNat : Int) < 128) : iand .u8 (x.toNat : Int) 128 = 0 := by
  have := and128 ⟨x.toNat, x.toNat_lt⟩
  dsimp only at this
  rw [this, if_pos h]
theorem and128_hi {x : UInt8} (h : ¬ (x.toNat : Int) < 128) : iand .u8 (x.toNat : Int) 128 = 128 := by
  have := and128 ⟨x.toNat, x.toNat_lt⟩
  dsimp only at this
  rw [this, if_neg h]
theorem pgF_bd (b : List UInt8) : ∀ (k a : Nat) (n : Int), 0 ≤ n → a + k ≤ 5 → 0 ≤ (pgF b k a n).1 ∧ (pgF b k a n).1 ≤ 2147483647 ∧ 0 ≤ (pgF b k a n).2.1 ∧ (pgF b k a n).2.1 ≤ (b.length : Int) ∧ (pgF b k a n).2.1 ≤ 6
  | 0, a, n, h, h2 => by rw [pgF_0]; dsimp only; omega
  | k + 1, a, n, h, h2 => by
    cases hx : b[a + 1]? with
    | none => rw [pgF_none hx]; dsimp only; omega
    | some x =>
      have hl := (List.getElem?_eq_some_iff.1 hx).1
      have hp := pw7p a
      have hm : 0 ≤ (x.toNat : Int) % 128 * pwI (7 * (a : Int)) := Int.mul_nonneg (by omega) (by omega)
      by_cases h1 : (x.toNat : Int) < 128
      · by_cases h3 : 2147483647 < n + (x.toNat : Int) % 128 * pwI (7 * (a : Int))
        · rw [pgF_big hx h1 h3]; dsimp only; omega
        · rw [pgF_end hx h1 h3]; dsimp only; omega
      · rw [pgF_more hx h1]
        exact pgF_bd b k (a + 1) _ (by omega) (by omega)
theorem pgG_bd (b : List UInt8) {c : Int} (h1 : 1 ≤ c) (h8 : c ≤ 8) : 0 ≤ (pgG b c).1 ∧ (pgG b c).1 ≤ 2147483647 ∧ 0 ≤ (pgG b c).2.1 ∧ (pgG b c).2.1 ≤ (b.length : Int) ∧ (pgG b c).2.1 ≤ 6 := by
  have hp := pwI_bd h1 h8
  cases hx : b[0]? with
  | none => rw [pgG_none hx]; dsimp only; omega
  | some x =>
    have hl := (List.getElem?_eq_some_iff.1 hx).1
    have hm0 : 0 ≤ (x.toNat : Int) % pwI c := Int.emod_nonneg _ (by omega)
    by_cases h : (x.toNat : Int) % pwI c < pwI c - 1
    · rw [pgG_lt hx h]; dsimp only; omega
    · rw [pgG_ge hx h]; exact pgF_bd b 5 0 _ hm0 (by omega)
theorem pgG_ok (b : List UInt8) {c : Int} (h : (pgG b c).2.2 = 0) : 1 ≤ b.length := by
  cases hx : b[0]? with
  | none => rw [pgG_none hx] at h; exact absurd h (by decide)
  | some x => have hl := (List.getElem?_eq_some_iff.1 hx).1; omega
def hiB (b : List UInt8) : Bool := match b[0]? with
  | some x => decide (¬ (x.toNat : Int) < 128)
  | none => false
theorem hiB_eq {b : List UInt8} {x : UInt8} (h : b[0]? = some x) : hiB b = decide (¬ (x.toNat : Int) < 128) := by unfold hiB; rw [h]
def cutB (b : List UInt8) (k n : Nat) : List UInt8 := (b.drop k).take n
def slG (b : List UInt8) (most : Int) : List UInt8 × Bool × Int × Int :=
  if (pgG b 7).2.2 ≠ 0 then ([], false, 0, (pgG b 7).2.2)
  else if max most 0 < (pgG b 7).1 then ([], false, 0, 9)
  else if (b.length : Int) - (pgG b 7).2.1 < (pgG b 7).1 then ([], false, 0, 3)
  else if hiB b = false then (cutB b (pgG b 7).2.1.toNat (pgG b 7).1.toNat, false, (pgG b 7).2.1 + (pgG b 7).1, 0)
  else if (huM (bitsL (cutB b (pgG b 7).2.1.toNat (pgG b 7).1.toNat)) 0 0 []).2 ≠ 0 then ([], false, 0, (huM (bitsL (cutB b (pgG b 7).2.1.toNat (pgG b 7).1.toNat)) 0 0 []).2)
  else ((huM (bitsL (cutB b (pgG b 7).2.1.toNat (pgG b 7).1.toNat)) 0 0 []).1, true, (pgG b 7).2.1 + (pgG b 7).1, 0)
attribute [local irreducible] pwI pfxP pgF pgG huM bitsL rowB encL
theorem slG_e {b : List UInt8} {most : Int} (h : (pgG b 7).2.2 ≠ 0) : slG b most = ([], false, 0, (pgG b 7).2.2) := by rw [slG, if_pos h]
theorem slG_long {b : List UInt8} {most : Int} (h : (pgG b 7).2.2 = 0) (h2 : max most 0 < (pgG b 7).1) : slG b most = ([], false, 0, 9) := by rw [slG, if_neg (by simpa using h), if_pos h2]
theorem slG_short {b : List UInt8} {most : Int} (h : (pgG b 7).2.2 = 0) (h2 : ¬ max most 0 < (pgG b 7).1) (h3 : (b.length : Int) - (pgG b 7).2.1 < (pgG b 7).1) : slG b most = ([], false, 0, 3) := by rw [slG, if_neg (by simpa using h), if_neg h2, if_pos h3]
theorem slG_lit {b : List UInt8} {most : Int} {k n : Nat} (h : (pgG b 7).2.2 = 0) (h2 : ¬ max most 0 < (pgG b 7).1) (h3 : ¬ (b.length : Int) - (pgG b 7).2.1 < (pgG b 7).1) (hk : (pgG b 7).2.1 = k) (hn : (pgG b 7).1 = n) (h4 : hiB b = false) : slG b most = (cutB b k n, false, (k : Int) + (n : Int), 0) := by
  rw [slG, if_neg (by simpa using h), if_neg h2, if_neg h3, if_pos h4, hk, hn, Int.toNat_natCast, Int.toNat_natCast]
theorem slG_bad {b : List UInt8} {most : Int} {k n : Nat} (h : (pgG b 7).2.2 = 0) (h2 : ¬ max most 0 < (pgG b 7).1) (h3 : ¬ (b.length : Int) - (pgG b 7).2.1 < (pgG b 7).1) (hk : (pgG b 7).2.1 = k) (hn : (pgG b 7).1 = n) (h4 : hiB b = true) (h5 : (huM (bitsL (cutB b k n)) 0 0 []).2 ≠ 0) : slG b most = ([], false, 0, (huM (bitsL (cutB b k n)) 0 0 []).2) := by
  rw [slG, if_neg (by simpa using h), if_neg h2, if_neg h3, if_neg (by simp [h4]), hk, hn, Int.toNat_natCast, Int.toNat_natCast, if_pos h5]
theorem slG_cod {b : List UInt8} {most : Int} {k n : Nat} (h : (pgG b 7).2.2 = 0) (h2 : ¬ max most 0 < (pgG b 7).1) (h3 : ¬ (b.length : Int) - (pgG b 7).2.1 < (pgG b 7).1) (hk : (pgG b 7).2.1 = k) (hn : (pgG b 7).1 = n) (h4 : hiB b = true) (h5 : (huM (bitsL (cutB b k n)) 0 0 []).2 = 0) : slG b most = ((huM (bitsL (cutB b k n)) 0 0 []).1, true, (k : Int) + (n : Int), 0) := by
  rw [slG, if_neg (by simpa using h), if_neg h2, if_neg h3, if_neg (by simp [h4]), hk, hn, Int.toNat_natCast, Int.toNat_natCast, if_neg (by simpa using h5)]
theorem slG_cases (b : List UInt8) (most : Int) : ((pgG b 7).2.2 ≠ 0 ∧ slG b most = ([], false, 0, (pgG b 7).2.2)) ∨ ((pgG b 7).2.2 = 0 ∧ 1 ≤ b.length ∧ max most 0 < (pgG b 7).1 ∧ slG b most = ([], false, 0, 9)) ∨ ((pgG b 7).2.2 = 0 ∧ 1 ≤ b.length ∧ ¬ max most 0 < (pgG b 7).1 ∧ (b.length : Int) - (pgG b 7).2.1 < (pgG b 7).1 ∧ slG b most = ([], false, 0, 3)) ∨ ((pgG b 7).2.2 = 0 ∧ 1 ≤ b.length ∧ ¬ max most 0 < (pgG b 7).1 ∧ ¬ (b.length : Int) - (pgG b 7).2.1 < (pgG b 7).1) := by
  by_cases h : (pgG b 7).2.2 = 0
  · have h1 := pgG_ok b h
    by_cases h2 : max most 0 < (pgG b 7).1
    · exact .inr (.inl ⟨h, h1, h2, slG_long h h2⟩)
    by_cases h3 : (b.length : Int) - (pgG b 7).2.1 < (pgG b 7).1
    · exact .inr (.inr (.inl ⟨h, h1, h2, h3, slG_short h h2 h3⟩))
    · exact .inr (.inr (.inr ⟨h, h1, h2, h3⟩))
  · exact .inl ⟨h, slG_e h⟩
attribute [local irreducible] slG cutB
theorem sget0 (f q : Bool) (b : List UInt8) (hb : b.length ≤ 100000) (most : Int) (t : List UInt8) (s : Bool) (k e : Int) (htot : slG b most = (t, s, k, e)) : AEq Tryd.prog 45 [.sl f q (b.map byteA), i64 most] [] (.tu [.ag [.lit (.string ⟨t.toArray⟩), bl s], i64 k, i64 e]) [] := by
  have hbd := pgG_bd b (c := 7) (by decide) (by decide)
  rcases slG_cases b most with ⟨h1, h2⟩ | ⟨h1, h0, h3, h2⟩ | ⟨h1, h0, h3, h4, h2⟩ | ⟨h1, h0, h3, h4⟩
  · rw [h2] at htot
    obtain ⟨rfl, rfl, rfl, rfl⟩ : t = [] ∧ s = false ∧ k = 0 ∧ e = (pgG b 7).2.2 := by simp only [Prod.mk.injEq] at htot; exact ⟨htot.1.symm, htot.2.1.symm, htot.2.2.1.symm, htot.2.2.2.symm⟩
    refine acall_body Tryd.func45 rfl Tryd.ntmps45 (by simp) (fun hsc => ?_); simp only [Lf.enter, Nat.reduceAdd]; clear hsc
    have hU := True.intro
    repeat' (first | (guard_target =~ PWp _ _ _ _ _ _ _; first | (refine pwp_seq_k (fun K hK => ?_)) | (refine pwp_block ?_) | (refine pwp_rg_then ?_) | (refine pwp_ret ?_) | ((refine pwp_cond_d (fun hcd => ?_) (fun hcd => ?_)) <;> (try simp only [hcP] at hcd) <;> (try exact cdT))) | (guard_target =~ rg _ _ _ _ _ _ _; first | (guard_target =~ rg _ _ _ [] _ _ _; first | (refine rg_end ?_)) | (refine rg_a rfl (h := ?_)) | (refine rg_x rfl (hy := rfl) (h := ?_)) | (refine rg_v rfl (h := ?_)) | (refine rg_s rfl ?_) | (refine rg_n rfl ?_)) | (guard_target =~ SOp _ _ _ _ _ _; first | (guard_target =~ SOp _ _ ⟨_, .store _ _ _, _, _, _, none⟩ _ _ _; first | (refine n_store rfl (hK := ?_))) | (guard_target =~ SOp _ _ ⟨_, .build _ _, _, _, _, none⟩ _ _ _; first | (refine n_build rfl (by first | exact bd25 | fail) (hK := ?_))) | (guard_target =~ SOp _ _ ⟨_, .call ⟨.value (.func 43), _, _⟩, _, _, _, none⟩ _ _ _; first | (refine n_call (f := 43) rfl Tryd.call43 (h := AEq.pure' agT (pget _ _ _ (by omega) _ (by omega) (by omega)) (hq := ?_)))) | (guard_target =~ SOp _ _ ⟨_, .alloc _, _, _, _, none⟩ _ _ _; first | (refine n_alloc rfl (by first | exact zv3 | exact zv4 | exact zv5 | exact zv9 | exact zv22 | exact zv25 | exact zv28 | fail) (hK := ?_)))) | (guard_target =~ (_ ∨ _) ∧ _; first | ((refine end_q [] (by first | exact .inr rfl | exact .inl rfl | fail) (by rfl) (by rw [Tryd.results45]; exact Lf.resM3 (by (try simp (disch := omega) only [Lf.resOne, go_sem, seval, ↓reduceIte, hU]); rfl) (by (try simp (disch := omega) only [Lf.resOne, go_sem, seval, ↓reduceIte, hU]); rfl) (by (try simp (disch := omega) only [Lf.resOne, go_sem, seval, ↓reduceIte, hU]); rfl)) sT sT (ale_3 ?_ ?_ ?_) ?_) <;> (try (first | exact aleT | exact stq (by with_reducible rfl) | exact stq (by rfl) | exact stq (by simp (disch := omega) only [go_sem, seval, ↓reduceIte, hU]))))) | (refine hK _ _ ?_; clear hK K))
  · rw [h2] at htot
    obtain ⟨rfl, rfl, rfl, rfl⟩ : t = [] ∧ s = false ∧ k = 0 ∧ e = 9 := by simp only [Prod.mk.injEq] at htot; exact ⟨htot.1.symm, htot.2.1.symm, htot.2.2.1.symm, htot.2.2.2.symm⟩
    refine acall_body Tryd.func45 rfl Tryd.ntmps45 (by simp) (fun hsc => ?_); simp only [Lf.enter, Nat.reduceAdd]; clear hsc
    have hU := @h1
    repeat' (first | (guard_target =~ PWp _ _ _ _ _ _ _; first | (refine pwp_seq_k (fun K hK => ?_)) | (refine pwp_block ?_) | (refine pwp_rg_then ?_) | (refine pwp_ret ?_) | ((refine pwp_cond_d (fun hcd => ?_) (fun hcd => ?_)) <;> (try simp only [hcP] at hcd) <;> (try exact cdT))) | (guard_target =~ rg _ _ _ _ _ _ _; first | (guard_target =~ rg _ _ _ [] _ _ _; first | (refine rg_end ?_)) | (refine rg_a rfl (h := ?_)) | (refine rg_x rfl (hy := rfl) (h := ?_)) | (refine rg_v rfl (h := ?_)) | (refine rg_s rfl ?_) | (refine rg_n rfl ?_)) | (guard_target =~ SOp _ _ _ _ _ _; first | (guard_target =~ SOp _ _ ⟨_, .store _ _ _, _, _, _, none⟩ _ _ _; first | (refine n_store rfl (hK := ?_))) | (guard_target =~ SOp _ _ ⟨_, .build _ _, _, _, _, none⟩ _ _ _; first | (refine n_build rfl (by first | exact bd25 | fail) (hK := ?_))) | (guard_target =~ SOp _ _ ⟨_, .call ⟨.builtin .max, _, _⟩, _, _, _, none⟩ _ _ _; first | (refine n_max_m rfl sT sT ?_)) | (guard_target =~ SOp _ _ ⟨_, .call ⟨.value (.func 43), _, _⟩, _, _, _, none⟩ _ _ _; first | (refine n_call (f := 43) rfl Tryd.call43 (h := AEq.pure' agT (pget _ _ _ (by omega) _ (by omega) (by omega)) (hq := ?_)))) | (guard_target =~ SOp _ _ ⟨_, .alloc _, _, _, _, none⟩ _ _ _; first | (refine n_alloc rfl (by first | exact zv3 | exact zv4 | exact zv5 | exact zv9 | exact zv22 | exact zv25 | exact zv28 | fail) (hK := ?_)))) | (guard_target =~ (_ ∨ _) ∧ _; first | ((refine end_q [] (by first | exact .inr rfl | exact .inl rfl | fail) (by rfl) (by rw [Tryd.results45]; exact Lf.resM3 (by (try simp (disch := omega) only [Lf.resOne, go_sem, seval, ↓reduceIte, hU]); rfl) (by (try simp (disch := omega) only [Lf.resOne, go_sem, seval, ↓reduceIte, hU]); rfl) (by (try simp (disch := omega) only [Lf.resOne, go_sem, seval, ↓reduceIte, hU]); rfl)) sT sT (ale_3 ?_ ?_ ?_) ?_) <;> (try (first | exact aleT | exact stq (by with_reducible rfl) | exact stq (by rfl) | exact stq (by simp (disch := omega) only [go_sem, seval, ↓reduceIte, hU]))))) | (refine hK _ _ ?_; clear hK K))
  · rw [h2] at htot
    obtain ⟨rfl, rfl, rfl, rfl⟩ : t = [] ∧ s = false ∧ k = 0 ∧ e = 3 := by simp only [Prod.mk.injEq] at htot; exact ⟨htot.1.symm, htot.2.1.symm, htot.2.2.1.symm, htot.2.2.2.symm⟩
    refine acall_body Tryd.func45 rfl Tryd.ntmps45 (by simp) (fun hsc => ?_); simp only [Lf.enter, Nat.reduceAdd]; clear hsc
    have hU := @h1
    repeat' (first | (guard_target =~ PWp _ _ _ _ _ _ _; first | (refine pwp_seq_k (fun K hK => ?_)) | (refine pwp_block ?_) | (refine pwp_rg_then ?_) | (refine pwp_ret ?_) | ((refine pwp_cond_d (fun hcd => ?_) (fun hcd => ?_)) <;> (try simp only [hcP] at hcd) <;> (try exact cdT))) | (guard_target =~ rg _ _ _ _ _ _ _; first | (guard_target =~ rg _ _ _ [] _ _ _; first | (refine rg_end ?_)) | (refine rg_a rfl (h := ?_)) | (refine rg_x rfl (hy := rfl) (h := ?_)) | (refine rg_v rfl (h := ?_)) | (refine rg_s rfl ?_) | (refine rg_n rfl ?_)) | (guard_target =~ SOp _ _ _ _ _ _; first | (guard_target =~ SOp _ _ ⟨_, .store _ _ _, _, _, _, none⟩ _ _ _; first | (refine n_store rfl (hK := ?_))) | (guard_target =~ SOp _ _ ⟨_, .build _ _, _, _, _, none⟩ _ _ _; first | (refine n_build rfl (by first | exact bd25 | fail) (hK := ?_))) | (guard_target =~ SOp _ _ ⟨_, .call ⟨.builtin .max, _, _⟩, _, _, _, none⟩ _ _ _; first | (refine n_max_l rfl sT sT (by (try simp only [List.length_map, List.length_append, List.length_cons, List.length_nil, List.length_replicate, List.length_take, List.length_drop, List.length_set]); omega) ?_)) | (guard_target =~ SOp _ _ ⟨_, .call ⟨.value (.func 43), _, _⟩, _, _, _, none⟩ _ _ _; first | (refine n_call (f := 43) rfl Tryd.call43 (h := AEq.pure' agT (pget _ _ _ (by omega) _ (by omega) (by omega)) (hq := ?_)))) | (guard_target =~ SOp _ _ ⟨_, .alloc _, _, _, _, none⟩ _ _ _; first | (refine n_alloc rfl (by first | exact zv3 | exact zv4 | exact zv5 | exact zv9 | exact zv22 | exact zv25 | exact zv28 | fail) (hK := ?_)))) | (guard_target =~ (_ ∨ _) ∧ _; first | ((refine end_q [] (by first | exact .inr rfl | exact .inl rfl | fail) (by rfl) (by rw [Tryd.results45]; exact Lf.resM3 (by (try simp (disch := omega) only [Lf.resOne, go_sem, seval, ↓reduceIte, hU]); rfl) (by (try simp (disch := omega) only [Lf.resOne, go_sem, seval, ↓reduceIte, hU]); rfl) (by (try simp (disch := omega) only [Lf.resOne, go_sem, seval, ↓reduceIte, hU]); rfl)) sT sT (ale_3 ?_ ?_ ?_) ?_) <;> (try (first | exact aleT | exact stq (by with_reducible rfl) | exact stq (by rfl) | exact stq (by simp (disch := omega) only [go_sem, seval, ↓reduceIte, hU]))))) | (refine hK _ _ ?_; clear hK K))
  · obtain ⟨x, hx⟩ := ex_at (l := b) (i := 0) (by omega)
    have hxl := x.toNat_lt
    obtain ⟨k0, hk⟩ : ∃ j : Nat, (pgG b 7).2.1 = j := ⟨(pgG b 7).2.1.toNat, by omega⟩
    obtain ⟨n0, hn⟩ : ∃ j : Nat, (pgG b 7).1 = j := ⟨(pgG b 7).1.toNat, by omega⟩
    have h30 := h3
    have h40 := h4
    rw [hn] at h3
    rw [hk, hn] at h4
    rw [hk, hn] at hbd
    have hcl : (cutB b k0 n0).length = n0 := by unfold cutB; rw [List.length_take, List.length_drop]; omega
    have hcb : List.drop k0 (List.take ((k0 : Int) + (n0 : Int)).toNat b) = cutB b k0 n0 := by unfold cutB; rw [show ((k0 : Int) + (n0 : Int)).toNat = k0 + n0 from by omega, List.drop_take, Nat.add_sub_cancel_left]
    by_cases hlo : (x.toNat : Int) < 128
    · have ha := and128_lo hlo
      rw [slG_lit h1 h30 h40 hk hn (by rw [hiB_eq hx]; simp [hlo])] at htot
      obtain ⟨rfl, rfl, rfl, rfl⟩ : t = cutB b k0 n0 ∧ s = false ∧ k = (k0 : Int) + (n0 : Int) ∧ e = 0 := by simp only [Prod.mk.injEq] at htot; exact ⟨htot.1.symm, htot.2.1.symm, htot.2.2.1.symm, htot.2.2.2.symm⟩
      refine acall_body Tryd.func45 rfl Tryd.ntmps45 (by simp) (fun hsc => ?_); simp only [Lf.enter, Nat.reduceAdd]; clear hsc
      have hU := And.intro @h1 ( And.intro @hk ( And.intro @hn ( And.intro @ha (@hcb))))
      repeat' (first | (guard_target =~ PWp _ _ _ _ _ _ _; first | (refine pwp_seq_k (fun K hK => ?_)) | (refine pwp_block ?_) | (refine pwp_rg_then ?_) | (refine pwp_draw mixed (by kernel_rfl) ?_) | (refine pwp_ret ?_) | (refine pwp_skip ?_) | ((refine pwp_cond_d (fun hcd => ?_) (fun hcd => ?_)) <;> (try simp only [hcP] at hcd) <;> (try exact cdT))) | (guard_target =~ rg _ _ _ _ _ _ _; first | (guard_target =~ rg _ _ _ [] _ _ _; first | (refine rg_end ?_)) | (refine rg_a rfl (h := ?_)) | (refine rg_x rfl (hy := rfl) (h := ?_)) | (refine rg_v rfl (h := ?_)) | (refine rg_s rfl ?_) | (refine rg_n rfl ?_)) | (guard_target =~ SOp _ _ _ _ _ _; first | (guard_target =~ SOp _ _ ⟨_, .store _ _ _, _, _, _, none⟩ _ _ _; first | (refine n_store rfl (hK := ?_))) | (guard_target =~ SOp _ _ ⟨_, .build _ _, _, _, _, none⟩ _ _ _; first | (refine n_build rfl (by first | exact bd25 | fail) (hK := ?_))) | (guard_target =~ SOp _ _ ⟨_, .convert _ _ _, _, _, _, none⟩ _ _ _; first | (refine n_string rfl (hK := ?_))) | (guard_target =~ SOp _ _ ⟨_, .call ⟨.builtin .max, _, _⟩, _, _, _, none⟩ _ _ _; first | (refine n_max_m rfl sT sT ?_)) | (guard_target =~ SOp _ _ ⟨_, .call ⟨.value (.func 43), _, _⟩, _, _, _, none⟩ _ _ _; first | (refine n_call (f := 43) rfl Tryd.call43 (h := AEq.pure' agT (pget _ _ _ (by omega) _ (by omega) (by omega)) (hq := ?_)))) | (guard_target =~ SOp _ _ ⟨_, .alloc _, _, _, _, none⟩ _ _ _; first | (refine n_alloc rfl (by first | exact zv3 | exact zv4 | exact zv5 | exact zv9 | exact zv22 | exact zv25 | exact zv28 | fail) (hK := ?_)))) | (guard_target =~ dg _ _ _ _ _ _ _; first | (guard_target =~ dg _ _ _ (⟨_, .move _, _, _, _, none⟩ :: _) _ _ _; first | (refine dg_v rfl (hk := ?_))) | (guard_target =~ dg _ _ _ (⟨_, .assign _, _, _, _, none⟩ :: _) _ _ _; first | (refine dg_a rfl (hk := ?_))) | (guard_target =~ dg _ _ _ (⟨_, .binOp _ _ _ _ _, _, _, _, none⟩ :: _) _ _ _; first | (refine dg_v rfl (hk := ?_))) | (guard_target =~ dg _ _ _ (⟨_, .call ⟨.builtin .len, _, _⟩, _, _, _, none⟩ :: _) _ _ _; first | (refine dg_v rfl (hk := ?_))) | (guard_target =~ dg _ _ _ (⟨_, .slice _ _ _ _ _, _, _, _, none⟩ :: _) _ _ _; first | (refine dg_c (x := _) (h := ro_s (h := n_slice rfl (hg := (fun _ => (by simp only [go_sem, seval, ↓reduceIte, hU] <;> rfl))) (hK := ro_end ⟨rfl, rfl⟩))) (hk := ?_))) | (guard_target =~ dg _ _ _ (⟨_, .convert _ _ _, _, _, _, none⟩ :: _) _ _ _; first | (refine dg_v rfl (hk := ?_))) | (guard_target =~ dg _ _ _ (⟨_, .indexAddr _ _ _, _, _, _, none⟩ :: _) _ _ _; first | (refine dg_c (x := _) (h := ro_s (h := n_index rfl (hK := ro_end ⟨rfl, rfl⟩))) (hk := ?_))) | (guard_target =~ dg _ _ _ (⟨_, .load _ _, _, _, _, none⟩ :: _) _ _ _; first | (refine dg_v rfl (hk := ?_))) | (guard_target =~ dg _ _ _ [] _ _ _; first | (refine dg_nil ?_))) | (guard_target =~ (_ ∨ _) ∧ _; first | ((refine end_q [] (by first | exact .inr rfl | exact .inl rfl | fail) (by rfl) (by rw [Tryd.results45]; exact Lf.resM3 (by (try simp (disch := omega) only [Lf.resOne, go_sem, seval, ↓reduceIte, hU]); rfl) (by (try simp (disch := omega) only [Lf.resOne, go_sem, seval, ↓reduceIte, hU]); rfl) (by (try simp (disch := omega) only [Lf.resOne, go_sem, seval, ↓reduceIte, hU]); rfl)) sT sT (ale_3 ?_ ?_ ?_) ?_) <;> (try (first | exact aleT | exact stq (by with_reducible rfl) | exact stq (by rfl) | exact stq (by simp (disch := omega) only [go_sem, seval, ↓reduceIte, hU]))))) | (refine hK _ _ ?_; clear hK K))
    · have ha := and128_hi hlo
      have hhi : hiB b = true := by rw [hiB_eq hx]; simp [hlo]
      by_cases h5 : (huM (bitsL (cutB b k0 n0)) 0 0 []).2 = 0
      · rw [slG_cod h1 h30 h40 hk hn hhi h5] at htot
        obtain ⟨rfl, rfl, rfl, rfl⟩ : t = (huM (bitsL (cutB b k0 n0)) 0 0 []).1 ∧ s = true ∧ k = (k0 : Int) + (n0 : Int) ∧ e = 0 := by simp only [Prod.mk.injEq] at htot; exact ⟨htot.1.symm, htot.2.1.symm, htot.2.2.1.symm, htot.2.2.2.symm⟩
        refine acall_body Tryd.func45 rfl Tryd.ntmps45 (by simp) (fun hsc => ?_); simp only [Lf.enter, Nat.reduceAdd]; clear hsc
        have hU := And.intro @h1 ( And.intro @hk ( And.intro @hn ( And.intro @ha ( And.intro @hcb (@h5)))))
        repeat' (first | (guard_target =~ PWp _ _ _ _ _ _ _; first | (refine pwp_seq_k (fun K hK => ?_)) | (refine pwp_block ?_) | (refine pwp_rg_then ?_) | (refine pwp_draw mixed (by kernel_rfl) ?_) | (refine pwp_ret ?_) | (refine pwp_skip ?_) | ((refine pwp_cond_d (fun hcd => ?_) (fun hcd => ?_)) <;> (try simp only [hcP] at hcd) <;> (try exact cdT))) | (guard_target =~ rg _ _ _ _ _ _ _; first | (guard_target =~ rg _ _ _ [] _ _ _; first | (refine rg_end ?_)) | (refine rg_a rfl (h := ?_)) | (refine rg_x rfl (hy := rfl) (h := ?_)) | (refine rg_v rfl (h := ?_)) | (refine rg_s rfl ?_) | (refine rg_n rfl ?_)) | (guard_target =~ SOp _ _ _ _ _ _; first | (guard_target =~ SOp _ _ ⟨_, .store _ _ _, _, _, _, none⟩ _ _ _; first | (refine n_store rfl (hK := ?_))) | (guard_target =~ SOp _ _ ⟨_, .build _ _, _, _, _, none⟩ _ _ _; first | (refine n_build rfl (by first | exact bd25 | fail) (hK := ?_))) | (guard_target =~ SOp _ _ ⟨_, .convert _ _ _, _, _, _, none⟩ _ _ _; first | (refine n_string rfl (hK := ?_))) | (guard_target =~ SOp _ _ ⟨_, .call ⟨.builtin .max, _, _⟩, _, _, _, none⟩ _ _ _; first | (refine n_max_m rfl sT sT ?_)) | (guard_target =~ SOp _ _ ⟨_, .call ⟨.value (.func 43), _, _⟩, _, _, _, none⟩ _ _ _; first | (refine n_call (f := 43) rfl Tryd.call43 (h := AEq.pure' agT (pget _ _ _ (by omega) _ (by omega) (by omega)) (hq := ?_)))) | (guard_target =~ SOp _ _ ⟨_, .call ⟨.value (.func 74), _, _⟩, _, _, _, none⟩ _ _ _; first | (refine n_call (f := 74) rfl Tryd.call74 (h := AEq.pure' agT (hdecode _ _ _ (by omega)) (hq := ?_)))) | (guard_target =~ SOp _ _ ⟨_, .alloc _, _, _, _, none⟩ _ _ _; first | (refine n_alloc rfl (by first | exact zv3 | exact zv4 | exact zv5 | exact zv9 | exact zv22 | exact zv25 | exact zv28 | fail) (hK := ?_)))) | (guard_target =~ dg _ _ _ _ _ _ _; first | (guard_target =~ dg _ _ _ (⟨_, .move _, _, _, _, none⟩ :: _) _ _ _; first | (refine dg_v rfl (hk := ?_))) | (guard_target =~ dg _ _ _ (⟨_, .assign _, _, _, _, none⟩ :: _) _ _ _; first | (refine dg_a rfl (hk := ?_))) | (guard_target =~ dg _ _ _ (⟨_, .binOp _ _ _ _ _, _, _, _, none⟩ :: _) _ _ _; first | (refine dg_v rfl (hk := ?_))) | (guard_target =~ dg _ _ _ (⟨_, .call ⟨.builtin .len, _, _⟩, _, _, _, none⟩ :: _) _ _ _; first | (refine dg_v rfl (hk := ?_))) | (guard_target =~ dg _ _ _ (⟨_, .slice _ _ _ _ _, _, _, _, none⟩ :: _) _ _ _; first | (refine dg_c (x := _) (h := ro_s (h := n_slice rfl (hg := (fun _ => (by simp only [go_sem, seval, ↓reduceIte, hU] <;> rfl))) (hK := ro_end ⟨rfl, rfl⟩))) (hk := ?_))) | (guard_target =~ dg _ _ _ (⟨_, .convert _ _ _, _, _, _, none⟩ :: _) _ _ _; first | (refine dg_v rfl (hk := ?_))) | (guard_target =~ dg _ _ _ (⟨_, .indexAddr _ _ _, _, _, _, none⟩ :: _) _ _ _; first | (refine dg_c (x := _) (h := ro_s (h := n_index rfl (hK := ro_end ⟨rfl, rfl⟩))) (hk := ?_))) | (guard_target =~ dg _ _ _ (⟨_, .load _ _, _, _, _, none⟩ :: _) _ _ _; first | (refine dg_v rfl (hk := ?_))) | (guard_target =~ dg _ _ _ [] _ _ _; first | (refine dg_nil ?_))) | (guard_target =~ (_ ∨ _) ∧ _; first | ((refine end_q [] (by first | exact .inr rfl | exact .inl rfl | fail) (by rfl) (by rw [Tryd.results45]; exact Lf.resM3 (by (try simp (disch := omega) only [Lf.resOne, go_sem, seval, ↓reduceIte, hU]); rfl) (by (try simp (disch := omega) only [Lf.resOne, go_sem, seval, ↓reduceIte, hU]); rfl) (by (try simp (disch := omega) only [Lf.resOne, go_sem, seval, ↓reduceIte, hU]); rfl)) sT sT (ale_3 ?_ ?_ ?_) ?_) <;> (try (first | exact aleT | exact stq (by with_reducible rfl) | exact stq (by rfl) | exact stq (by simp (disch := omega) only [go_sem, seval, ↓reduceIte, hU]))))) | (refine hK _ _ ?_; clear hK K))
      · rw [slG_bad h1 h30 h40 hk hn hhi h5] at htot
        obtain ⟨rfl, rfl, rfl, rfl⟩ : t = [] ∧ s = false ∧ k = 0 ∧ e = (huM (bitsL (cutB b k0 n0)) 0 0 []).2 := by simp only [Prod.mk.injEq] at htot; exact ⟨htot.1.symm, htot.2.1.symm, htot.2.2.1.symm, htot.2.2.2.symm⟩
        refine acall_body Tryd.func45 rfl Tryd.ntmps45 (by simp) (fun hsc => ?_); simp only [Lf.enter, Nat.reduceAdd]; clear hsc
        have hU := And.intro @h1 ( And.intro @hk ( And.intro @hn ( And.intro @ha (@hcb))))
        repeat' (first | (guard_target =~ PWp _ _ _ _ _ _ _; first | (refine pwp_seq_k (fun K hK => ?_)) | (refine pwp_block ?_) | (refine pwp_rg_then ?_) | (refine pwp_draw mixed (by kernel_rfl) ?_) | (refine pwp_ret ?_) | (refine pwp_skip ?_) | ((refine pwp_cond_d (fun hcd => ?_) (fun hcd => ?_)) <;> (try simp only [hcP] at hcd) <;> (try exact cdT))) | (guard_target =~ rg _ _ _ _ _ _ _; first | (guard_target =~ rg _ _ _ [] _ _ _; first | (refine rg_end ?_)) | (refine rg_a rfl (h := ?_)) | (refine rg_x rfl (hy := rfl) (h := ?_)) | (refine rg_v rfl (h := ?_)) | (refine rg_s rfl ?_) | (refine rg_n rfl ?_)) | (guard_target =~ SOp _ _ _ _ _ _; first | (guard_target =~ SOp _ _ ⟨_, .store _ _ _, _, _, _, none⟩ _ _ _; first | (refine n_store rfl (hK := ?_))) | (guard_target =~ SOp _ _ ⟨_, .build _ _, _, _, _, none⟩ _ _ _; first | (refine n_build rfl (by first | exact bd25 | fail) (hK := ?_))) | (guard_target =~ SOp _ _ ⟨_, .call ⟨.builtin .max, _, _⟩, _, _, _, none⟩ _ _ _; first | (refine n_max_m rfl sT sT ?_)) | (guard_target =~ SOp _ _ ⟨_, .call ⟨.value (.func 43), _, _⟩, _, _, _, none⟩ _ _ _; first | (refine n_call (f := 43) rfl Tryd.call43 (h := AEq.pure' agT (pget _ _ _ (by omega) _ (by omega) (by omega)) (hq := ?_)))) | (guard_target =~ SOp _ _ ⟨_, .call ⟨.value (.func 74), _, _⟩, _, _, _, none⟩ _ _ _; first | (refine n_call (f := 74) rfl Tryd.call74 (h := AEq.pure' agT (hdecode _ _ _ (by omega)) (hq := ?_)))) | (guard_target =~ SOp _ _ ⟨_, .alloc _, _, _, _, none⟩ _ _ _; first | (refine n_alloc rfl (by first | exact zv3 | exact zv4 | exact zv5 | exact zv9 | exact zv22 | exact zv25 | exact zv28 | fail) (hK := ?_)))) | (guard_target =~ dg _ _ _ _ _ _ _; first | (guard_target =~ dg _ _ _ (⟨_, .move _, _, _, _, none⟩ :: _) _ _ _; first | (refine dg_v rfl (hk := ?_))) | (guard_target =~ dg _ _ _ (⟨_, .assign _, _, _, _, none⟩ :: _) _ _ _; first | (refine dg_a rfl (hk := ?_))) | (guard_target =~ dg _ _ _ (⟨_, .binOp _ _ _ _ _, _, _, _, none⟩ :: _) _ _ _; first | (refine dg_v rfl (hk := ?_))) | (guard_target =~ dg _ _ _ (⟨_, .call ⟨.builtin .len, _, _⟩, _, _, _, none⟩ :: _) _ _ _; first | (refine dg_v rfl (hk := ?_))) | (guard_target =~ dg _ _ _ (⟨_, .slice _ _ _ _ _, _, _, _, none⟩ :: _) _ _ _; first | (refine dg_c (x := _) (h := ro_s (h := n_slice rfl (hg := (fun _ => (by simp only [go_sem, seval, ↓reduceIte, hU] <;> rfl))) (hK := ro_end ⟨rfl, rfl⟩))) (hk := ?_))) | (guard_target =~ dg _ _ _ (⟨_, .convert _ _ _, _, _, _, none⟩ :: _) _ _ _; first | (refine dg_v rfl (hk := ?_))) | (guard_target =~ dg _ _ _ (⟨_, .indexAddr _ _ _, _, _, _, none⟩ :: _) _ _ _; first | (refine dg_c (x := _) (h := ro_s (h := n_index rfl (hK := ro_end ⟨rfl, rfl⟩))) (hk := ?_))) | (guard_target =~ dg _ _ _ (⟨_, .load _ _, _, _, _, none⟩ :: _) _ _ _; first | (refine dg_v rfl (hk := ?_))) | (guard_target =~ dg _ _ _ [] _ _ _; first | (refine dg_nil ?_))) | (guard_target =~ (_ ∨ _) ∧ _; first | ((refine end_q [] (by first | exact .inr rfl | exact .inl rfl | fail) (by rfl) (by rw [Tryd.results45]; exact Lf.resM3 (by (try simp (disch := omega) only [Lf.resOne, go_sem, seval, ↓reduceIte, hU]); rfl) (by (try simp (disch := omega) only [Lf.resOne, go_sem, seval, ↓reduceIte, hU]); rfl) (by (try simp (disch := omega) only [Lf.resOne, go_sem, seval, ↓reduceIte, hU]); rfl)) sT sT (ale_3 ?_ ?_ ?_) ?_) <;> (try (first | exact aleT | exact stq (by with_reducible rfl) | exact stq (by rfl) | exact stq (by simp (disch := omega) only [go_sem, seval, ↓reduceIte, hU]))))) | (refine hK _ _ ?_; clear hK K))
end Go.Proofs.YtohbfcmmpaikhaaDoor

set_option linter.unusedVariables false
set_option linter.unusedSimpArgs false
namespace Go.Proofs.YtohbfcmmpaikhaaDoor
open Go Go.Lf Go.Proofs
attribute [local irreducible] Lf.rg Lf.ro Lf.PWp Lf.SOp Lf.ACall Lf.Scoped Lf.dg Lf.dw
set_option maxRecDepth 20000
set_option maxHeartbeats 4000000
attribute [local irreducible] pwI pfxP pgG huM bitsL rowB encL slG cutB
theorem sget (f q : Bool) (b : List UInt8) (hb : b.length ≤ 100000) (most : Int) : AEq Tryd.prog 45 [.sl f q (b.map byteA), i64 most] [] (.tu [.ag [.lit (.string ⟨(slG b most).1.toArray⟩), bl (slG b most).2.1], i64 (slG b most).2.2.1, i64 (slG b most).2.2.2]) [] := sget0 f q b hb most _ _ _ _ rfl
theorem rsget0 (f q : Bool) (b : List UInt8) (hb : b.length ≤ 100000) (most : Int) (t : List UInt8) (s : Bool) (k e : Int) (htot : slG b most = (t, s, k, e)) : AEq Tryd.prog 49 [.sl f q (b.map byteA), i64 most] [] (.tu [.lit (.string ⟨t.toArray⟩), bl s, i64 k, i64 e]) [] := by
  have hbd := pgG_bd b (c := 7) (by decide) (by decide)
  rcases slG_cases b most with ⟨h1, h2⟩ | ⟨h1, h0, h3, h2⟩ | ⟨h1, h0, h3, h4, h2⟩ | ⟨h1, h0, h3, h4⟩
  · rw [h2] at htot
    obtain ⟨rfl, rfl, rfl, rfl⟩ : t = [] ∧ s = false ∧ k = 0 ∧ e = (pgG b 7).2.2 := by simp only [Prod.mk.injEq] at htot; exact ⟨htot.1.symm, htot.2.1.symm, htot.2.2.1.symm, htot.2.2.2.symm⟩
    refine acall_body Tryd.func49 rfl Tryd.ntmps49 (by simp) (fun hsc => ?_); simp only [Lf.enter, Nat.reduceAdd]; clear hsc
    have hU := True.intro
    repeat' (first | (guard_target =~ PWp _ _ _ _ _ _ _; first | (refine pwp_seq_k (fun K hK => ?_)) | (refine pwp_rg_then ?_) | (refine pwp_ret ?_) | ((refine pwp_cond_d (fun hcd => ?_) (fun hcd => ?_)) <;> (try simp only [hcP] at hcd) <;> (try exact cdT))) | (guard_target =~ rg _ _ _ _ _ _ _; first | (guard_target =~ rg _ _ _ [] _ _ _; first | (refine rg_end ?_)) | (refine rg_a rfl (h := ?_)) | (refine rg_x rfl (hy := rfl) (h := ?_)) | (refine rg_v rfl (h := ?_)) | (refine rg_s rfl ?_)) | (guard_target =~ SOp _ _ _ _ _ _; first | (guard_target =~ SOp _ _ ⟨_, .call ⟨.value (.func 48), _, _⟩, _, _, _, none⟩ _ _ _; first | (refine n_call (f := 48) rfl Tryd.call48 (h := AEq.pure' agT (rget18 _ _ _ (by omega) _ (by omega) (by omega)) (hq := ?_))))) | (guard_target =~ (_ ∨ _) ∧ _; first | ((refine end_d [] (by rw [Tryd.results49, Lf.res4]) (ale_4 ?_ ?_ ?_ ?_) ?_) <;> (try (first | exact aleT | exact stq (by with_reducible rfl) | exact stq (by rfl) | exact stq (by simp (disch := omega) only [go_sem, seval, ↓reduceIte, hU]))))) | (refine hK _ _ ?_; clear hK K))
  · rw [h2] at htot
    obtain ⟨rfl, rfl, rfl, rfl⟩ : t = [] ∧ s = false ∧ k = 0 ∧ e = 9 := by simp only [Prod.mk.injEq] at htot; exact ⟨htot.1.symm, htot.2.1.symm, htot.2.2.1.symm, htot.2.2.2.symm⟩
    refine acall_body Tryd.func49 rfl Tryd.ntmps49 (by simp) (fun hsc => ?_); simp only [Lf.enter, Nat.reduceAdd]; clear hsc
    have hU := @h1
    repeat' (first | (guard_target =~ PWp _ _ _ _ _ _ _; first | (refine pwp_seq_k (fun K hK => ?_)) | (refine pwp_rg_then ?_) | (refine pwp_ret ?_) | (refine pwp_skip ?_) | ((refine pwp_cond_d (fun hcd => ?_) (fun hcd => ?_)) <;> (try simp only [hcP] at hcd) <;> (try exact cdT))) | (guard_target =~ rg _ _ _ _ _ _ _; first | (guard_target =~ rg _ _ _ (⟨_, .move _, _, _, _, some _⟩ :: _) _ _ _; first | (refine rg_gq rfl (h := ?_))) | (guard_target =~ rg _ _ _ (⟨_, .binOp _ _ _ _ _, _, _, _, some _⟩ :: _) _ _ _; first | (refine rg_gq rfl (h := ?_))) | (guard_target =~ rg _ _ _ [] _ _ _; first | (refine rg_end ?_)) | (refine rg_a rfl (h := ?_)) | (refine rg_x rfl (hy := rfl) (h := ?_)) | (refine rg_v rfl (h := ?_)) | (refine rg_s rfl ?_)) | (guard_target =~ SOp _ _ _ _ _ _; first | (guard_target =~ SOp _ _ ⟨_, .call ⟨.value (.func 48), _, _⟩, _, _, _, none⟩ _ _ _; first | (refine n_call (f := 48) rfl Tryd.call48 (h := AEq.pure' agT (rget18 _ _ _ (by omega) _ (by omega) (by omega)) (hq := ?_))))) | (guard_target =~ (_ ∨ _) ∧ _; first | ((refine end_d [] (by rw [Tryd.results49, Lf.res4]) (ale_4 ?_ ?_ ?_ ?_) ?_) <;> (try (first | exact aleT | exact stq (by with_reducible rfl) | exact stq (by rfl) | exact stq (by simp (disch := omega) only [go_sem, seval, ↓reduceIte, hU]))))) | (refine hK _ _ ?_; clear hK K))
  · rw [h2] at htot
    obtain ⟨rfl, rfl, rfl, rfl⟩ : t = [] ∧ s = false ∧ k = 0 ∧ e = 3 := by simp only [Prod.mk.injEq] at htot; exact ⟨htot.1.symm, htot.2.1.symm, htot.2.2.1.symm, htot.2.2.2.symm⟩
    refine acall_body Tryd.func49 rfl Tryd.ntmps49 (by simp) (fun hsc => ?_); simp only [Lf.enter, Nat.reduceAdd]; clear hsc
    have hU := @h1
    repeat' (first | (guard_target =~ PWp _ _ _ _ _ _ _; first | (refine pwp_seq_k (fun K hK => ?_)) | (refine pwp_rg_then ?_) | (refine pwp_ret ?_) | (refine pwp_skip ?_) | ((refine pwp_cond_d (fun hcd => ?_) (fun hcd => ?_)) <;> (try simp only [hcP] at hcd) <;> (try exact cdT))) | (guard_target =~ rg _ _ _ _ _ _ _; first | (guard_target =~ rg _ _ _ (⟨_, .move _, _, _, _, some _⟩ :: _) _ _ _; first | (refine rg_gq rfl (h := ?_))) | (guard_target =~ rg _ _ _ (⟨_, .binOp _ _ _ _ _, _, _, _, some _⟩ :: _) _ _ _; first | (refine rg_gq rfl (h := ?_))) | (guard_target =~ rg _ _ _ [] _ _ _; first | (refine rg_end ?_)) | (refine rg_a rfl (h := ?_)) | (refine rg_x rfl (hy := rfl) (h := ?_)) | (refine rg_v rfl (h := ?_)) | (refine rg_s rfl ?_)) | (guard_target =~ SOp _ _ _ _ _ _; first | (guard_target =~ SOp _ _ ⟨_, .call ⟨.value (.func 48), _, _⟩, _, _, _, none⟩ _ _ _; first | (refine n_call (f := 48) rfl Tryd.call48 (h := AEq.pure' agT (rget18 _ _ _ (by omega) _ (by omega) (by omega)) (hq := ?_))))) | (guard_target =~ (_ ∨ _) ∧ _; first | ((refine end_d [] (by rw [Tryd.results49, Lf.res4]) (ale_4 ?_ ?_ ?_ ?_) ?_) <;> (try (first | exact aleT | exact stq (by with_reducible rfl) | exact stq (by rfl) | exact stq (by simp (disch := omega) only [go_sem, seval, ↓reduceIte, hU]))))) | (refine hK _ _ ?_; clear hK K))
  · obtain ⟨x, hx⟩ := ex_at (l := b) (i := 0) (by omega)
    have hxl := x.toNat_lt
    obtain ⟨k0, hk⟩ : ∃ j : Nat, (pgG b 7).2.1 = j := ⟨(pgG b 7).2.1.toNat, by omega⟩
    obtain ⟨n0, hn⟩ : ∃ j : Nat, (pgG b 7).1 = j := ⟨(pgG b 7).1.toNat, by omega⟩
    have h30 := h3
    have h40 := h4
    rw [hn] at h3
    rw [hk, hn] at h4
    rw [hk, hn] at hbd
    have hcl : (cutB b k0 n0).length = n0 := by unfold cutB; rw [List.length_take, List.length_drop]; omega
    have hcb : List.drop k0 (List.take ((k0 : Int) + (n0 : Int)).toNat b) = cutB b k0 n0 := by unfold cutB; rw [show ((k0 : Int) + (n0 : Int)).toNat = k0 + n0 from by omega, List.drop_take, Nat.add_sub_cancel_left]
    by_cases hlo : (x.toNat : Int) < 128
    · rw [slG_lit h1 h30 h40 hk hn (by rw [hiB_eq hx]; simp [hlo])] at htot
      obtain ⟨rfl, rfl, rfl, rfl⟩ : t = cutB b k0 n0 ∧ s = false ∧ k = (k0 : Int) + (n0 : Int) ∧ e = 0 := by simp only [Prod.mk.injEq] at htot; exact ⟨htot.1.symm, htot.2.1.symm, htot.2.2.1.symm, htot.2.2.2.symm⟩
      refine acall_body Tryd.func49 rfl Tryd.ntmps49 (by simp) (fun hsc => ?_); simp only [Lf.enter, Nat.reduceAdd]; clear hsc
      have hU := And.intro @h1 ( And.intro @hk ( And.intro @hn (@hcb)))
      repeat' (first | (guard_target =~ PWp _ _ _ _ _ _ _; first | (refine pwp_seq_k (fun K hK => ?_)) | (refine pwp_rg_then ?_) | (refine pwp_ret ?_) | (refine pwp_skip ?_) | ((refine pwp_cond_d (fun hcd => ?_) (fun hcd => ?_)) <;> (try simp only [hcP] at hcd) <;> (try exact cdT))) | (guard_target =~ rg _ _ _ _ _ _ _; first | (guard_target =~ rg _ _ _ (⟨_, .move _, _, _, _, some _⟩ :: _) _ _ _; first | (refine rg_gq rfl (h := ?_))) | (guard_target =~ rg _ _ _ (⟨_, .binOp _ _ _ _ _, _, _, _, some _⟩ :: _) _ _ _; first | (refine rg_gq rfl (h := ?_))) | (guard_target =~ rg _ _ _ [] _ _ _; first | (refine rg_end ?_)) | (refine rg_a rfl (h := ?_)) | (refine rg_x rfl (hy := rfl) (h := ?_)) | (refine rg_v rfl (h := ?_)) | (refine rg_s rfl ?_)) | (guard_target =~ SOp _ _ _ _ _ _; first | (guard_target =~ SOp _ _ ⟨_, .convert _ _ _, _, _, _, none⟩ _ _ _; first | (refine n_string rfl (hK := ?_))) | (guard_target =~ SOp _ _ ⟨_, .slice _ _ _ _ _, _, _, _, none⟩ _ _ _; first | (refine n_slice rfl (hg := (fun _ => (by simp only [go_sem, seval, ↓reduceIte, hU] <;> rfl))) (hK := ?_))) | (guard_target =~ SOp _ _ ⟨_, .call ⟨.value (.func 48), _, _⟩, _, _, _, none⟩ _ _ _; first | (refine n_call (f := 48) rfl Tryd.call48 (h := AEq.pure' agT (rget18 _ _ _ (by omega) _ (by omega) (by omega)) (hq := ?_)))) | (guard_target =~ SOp _ _ ⟨_, .indexAddr _ _ _, _, _, _, none⟩ _ _ _; first | (refine n_index rfl (hK := ?_)))) | (guard_target =~ (_ ∨ _) ∧ _; first | ((refine end_d [] (by rw [Tryd.results49, Lf.res4]) (ale_4 ?_ ?_ ?_ ?_) ?_) <;> (try (first | exact aleT | exact stq (by with_reducible rfl) | exact stq (by rfl) | exact stq (by simp (disch := omega) only [go_sem, seval, ↓reduceIte, hU]))))) | (refine hK _ _ ?_; clear hK K))
    · have hhi : hiB b = true := by rw [hiB_eq hx]; simp [hlo]
      by_cases h5 : (huM (bitsL (cutB b k0 n0)) 0 0 []).2 = 0
      · rw [slG_cod h1 h30 h40 hk hn hhi h5] at htot
        obtain ⟨rfl, rfl, rfl, rfl⟩ : t = (huM (bitsL (cutB b k0 n0)) 0 0 []).1 ∧ s = true ∧ k = (k0 : Int) + (n0 : Int) ∧ e = 0 := by simp only [Prod.mk.injEq] at htot; exact ⟨htot.1.symm, htot.2.1.symm, htot.2.2.1.symm, htot.2.2.2.symm⟩
        refine acall_body Tryd.func49 rfl Tryd.ntmps49 (by simp) (fun hsc => ?_); simp only [Lf.enter, Nat.reduceAdd]; clear hsc
        have hU := And.intro @h1 ( And.intro @hk ( And.intro @hn ( And.intro @hcb (@h5))))
        repeat' (first | (guard_target =~ PWp _ _ _ _ _ _ _; first | (refine pwp_seq_k (fun K hK => ?_)) | (refine pwp_rg_then ?_) | (refine pwp_ret ?_) | (refine pwp_skip ?_) | ((refine pwp_cond_d (fun hcd => ?_) (fun hcd => ?_)) <;> (try simp only [hcP] at hcd) <;> (try exact cdT))) | (guard_target =~ rg _ _ _ _ _ _ _; first | (guard_target =~ rg _ _ _ (⟨_, .move _, _, _, _, some _⟩ :: _) _ _ _; first | (refine rg_gq rfl (h := ?_))) | (guard_target =~ rg _ _ _ (⟨_, .binOp _ _ _ _ _, _, _, _, some _⟩ :: _) _ _ _; first | (refine rg_gq rfl (h := ?_))) | (guard_target =~ rg _ _ _ [] _ _ _; first | (refine rg_end ?_)) | (refine rg_a rfl (h := ?_)) | (refine rg_x rfl (hy := rfl) (h := ?_)) | (refine rg_v rfl (h := ?_)) | (refine rg_s rfl ?_)) | (guard_target =~ SOp _ _ _ _ _ _; first | (guard_target =~ SOp _ _ ⟨_, .convert _ _ _, _, _, _, none⟩ _ _ _; first | (refine n_string rfl (hK := ?_))) | (guard_target =~ SOp _ _ ⟨_, .slice _ _ _ _ _, _, _, _, none⟩ _ _ _; first | (refine n_slice rfl (hg := (fun _ => (by simp only [go_sem, seval, ↓reduceIte, hU] <;> rfl))) (hK := ?_))) | (guard_target =~ SOp _ _ ⟨_, .call ⟨.value (.func 48), _, _⟩, _, _, _, none⟩ _ _ _; first | (refine n_call (f := 48) rfl Tryd.call48 (h := AEq.pure' agT (rget18 _ _ _ (by omega) _ (by omega) (by omega)) (hq := ?_)))) | (guard_target =~ SOp _ _ ⟨_, .indexAddr _ _ _, _, _, _, none⟩ _ _ _; first | (refine n_index rfl (hK := ?_))) | (guard_target =~ SOp _ _ ⟨_, .call ⟨.value (.func 76), _, _⟩, _, _, _, none⟩ _ _ _; first | (refine n_call (f := 76) rfl Tryd.call76 (h := AEq.pure' agT (rdecode _ _ _ (by omega)) (hq := ?_))))) | (guard_target =~ (_ ∨ _) ∧ _; first | ((refine end_d [] (by rw [Tryd.results49, Lf.res4]) (ale_4 ?_ ?_ ?_ ?_) ?_) <;> (try (first | exact aleT | exact stq (by with_reducible rfl) | exact stq (by rfl) | exact stq (by simp (disch := omega) only [go_sem, seval, ↓reduceIte, hU]))))) | (refine hK _ _ ?_; clear hK K))
      · rw [slG_bad h1 h30 h40 hk hn hhi h5] at htot
        obtain ⟨rfl, rfl, rfl, rfl⟩ : t = [] ∧ s = false ∧ k = 0 ∧ e = (huM (bitsL (cutB b k0 n0)) 0 0 []).2 := by simp only [Prod.mk.injEq] at htot; exact ⟨htot.1.symm, htot.2.1.symm, htot.2.2.1.symm, htot.2.2.2.symm⟩
        refine acall_body Tryd.func49 rfl Tryd.ntmps49 (by simp) (fun hsc => ?_); simp only [Lf.enter, Nat.reduceAdd]; clear hsc
        have hU := And.intro @h1 ( And.intro @hk ( And.intro @hn (@hcb)))
        repeat' (first | (guard_target =~ PWp _ _ _ _ _ _ _; first | (refine pwp_seq_k (fun K hK => ?_)) | (refine pwp_rg_then ?_) | (refine pwp_ret ?_) | (refine pwp_skip ?_) | ((refine pwp_cond_d (fun hcd => ?_) (fun hcd => ?_)) <;> (try simp only [hcP] at hcd) <;> (try exact cdT))) | (guard_target =~ rg _ _ _ _ _ _ _; first | (guard_target =~ rg _ _ _ (⟨_, .move _, _, _, _, some _⟩ :: _) _ _ _; first | (refine rg_gq rfl (h := ?_))) | (guard_target =~ rg _ _ _ (⟨_, .binOp _ _ _ _ _, _, _, _, some _⟩ :: _) _ _ _; first | (refine rg_gq rfl (h := ?_))) | (guard_target =~ rg _ _ _ [] _ _ _; first | (refine rg_end ?_)) | (refine rg_a rfl (h := ?_)) | (refine rg_x rfl (hy := rfl) (h := ?_)) | (refine rg_v rfl (h := ?_)) | (refine rg_s rfl ?_)) | (guard_target =~ SOp _ _ _ _ _ _; first | (guard_target =~ SOp _ _ ⟨_, .slice _ _ _ _ _, _, _, _, none⟩ _ _ _; first | (refine n_slice rfl (hg := (fun _ => (by simp only [go_sem, seval, ↓reduceIte, hU] <;> rfl))) (hK := ?_))) | (guard_target =~ SOp _ _ ⟨_, .call ⟨.value (.func 48), _, _⟩, _, _, _, none⟩ _ _ _; first | (refine n_call (f := 48) rfl Tryd.call48 (h := AEq.pure' agT (rget18 _ _ _ (by omega) _ (by omega) (by omega)) (hq := ?_)))) | (guard_target =~ SOp _ _ ⟨_, .indexAddr _ _ _, _, _, _, none⟩ _ _ _; first | (refine n_index rfl (hK := ?_))) | (guard_target =~ SOp _ _ ⟨_, .call ⟨.value (.func 76), _, _⟩, _, _, _, none⟩ _ _ _; first | (refine n_call (f := 76) rfl Tryd.call76 (h := AEq.pure' agT (rdecode _ _ _ (by omega)) (hq := ?_))))) | (guard_target =~ (_ ∨ _) ∧ _; first | ((refine end_d [] (by rw [Tryd.results49, Lf.res4]) (ale_4 ?_ ?_ ?_ ?_) ?_) <;> (try (first | exact aleT | exact stq (by with_reducible rfl) | exact stq (by rfl) | exact stq (by simp (disch := omega) only [go_sem, seval, ↓reduceIte, hU]))))) | (refine hK _ _ ?_; clear hK K))
theorem rsget (f q : Bool) (b : List UInt8) (hb : b.length ≤ 100000) (most : Int) : AEq Tryd.prog 49 [.sl f q (b.map byteA), i64 most] [] (.tu [.lit (.string ⟨(slG b most).1.toArray⟩), bl (slG b most).2.1, i64 (slG b most).2.2.1, i64 (slG b most).2.2.2]) [] := rsget0 f q b hb most _ _ _ _ rfl
end Go.Proofs.YtohbfcmmpaikhaaDoor

set_option linter.unusedVariables false
set_option linter.unusedSimpArgs false
namespace Go.Proofs.YtohbfcmmpaikhaaDoor
open Go Go.Lf Go.Proofs
attribute [local irreducible] Lf.rg Lf.ro Lf.PWp Lf.SOp Lf.ACall Lf.Scoped Lf.dg Lf.dw
set_option maxRecDepth 20000
set_option maxHeartbeats 4000000
@[go_sem] theorem tl_glob {i : Nat} {r : List Operand} : tl (.global i :: r) = tl r := rfl
def kindM (x : Int) : Int := if 128 ≤ x then 1 else if 64 ≤ x then 2 else if 32 ≤ x then 5 else if 16 ≤ x then 4 else 3
def frI (k : Int) : Int := if k = 1 then 128 else if k = 2 then 64 else if k = 5 then 32 else if k = 4 then 16 else 0
def biI (k : Int) : Int := if k = 1 then 7 else if k = 2 then 6 else if k = 5 then 5 else 4
def txB (k : Int) : Bool := k == 2 || k == 3 || k == 4
def bM (x : Int) (k : Nat) : Int := if k ≤ 1 then 3 else if 128 ≤ x then 1 else if k = 2 then 3 else if 64 ≤ x then 2 else if k ≤ 4 then 3 else if k = 5 then (if 16 ≤ x then 4 else 3) else if 32 ≤ x then 5 else if 16 ≤ x then 4 else 3
theorem bM_6 (x : Int) : bM x 6 = kindM x := by
  unfold bM kindM
  simp
theorem kst (x : Int) (k : Nat) (h0 : 0 ≤ x) (h1 : x ≤ 255) (hk1 : 1 ≤ k) (hk : k ≤ 5) : (k = 1 ∧ bM x k = 3 ∧ (128 ≤ x ∧ x < 256) ∧ bM x (k + 1) = 1) ∨ (k = 1 ∧ bM x k = 3 ∧ (0 ≤ x ∧ x < 128) ∧ bM x (k + 1) = 3) ∨ (k = 2 ∧ bM x k = 1 ∧ (128 ≤ x ∧ x < 256) ∧ bM x (k + 1) = 1) ∨ (k = 2 ∧ bM x k = 3 ∧ (64 ≤ x ∧ x < 128) ∧ bM x (k + 1) = 2) ∨ (k = 2 ∧ bM x k = 3 ∧ (0 ≤ x ∧ x < 64) ∧ bM x (k + 1) = 3) ∨ (k = 3 ∧ bM x k = 1 ∧ (128 ≤ x ∧ x < 256) ∧ bM x (k + 1) = 1) ∨ (k = 3 ∧ bM x k = 2 ∧ (64 ≤ x ∧ x < 128) ∧ bM x (k + 1) = 2) ∨ (k = 3 ∧ bM x k = 3 ∧ (0 ≤ x ∧ x < 64) ∧ bM x (k + 1) = 3) ∨ (k = 4 ∧ bM x k = 1 ∧ (128 ≤ x ∧ x < 256) ∧ bM x (k + 1) = 1) ∨ (k = 4 ∧ bM x k = 2 ∧ (64 ≤ x ∧ x < 128) ∧ bM x (k + 1) = 2) ∨ (k = 4 ∧ bM x k = 3 ∧ (16 ≤ x ∧ x < 64) ∧ bM x (k + 1) = 4) ∨ (k = 4 ∧ bM x k = 3 ∧ (0 ≤ x ∧ x < 16) ∧ bM x (k + 1) = 3) ∨ (k = 5 ∧ bM x k = 1 ∧ (128 ≤ x ∧ x < 256) ∧ bM x (k + 1) = 1) ∨ (k = 5 ∧ bM x k = 2 ∧ (64 ≤ x ∧ x < 128) ∧ bM x (k + 1) = 2) ∨ (k = 5 ∧ bM x k = 4 ∧ (32 ≤ x ∧ x < 64) ∧ bM x (k + 1) = 5) ∨ (k = 5 ∧ bM x k = 4 ∧ (16 ≤ x ∧ x < 32) ∧ bM x (k + 1) = 4) ∨ (k = 5 ∧ bM x k = 3 ∧ (0 ≤ x ∧ x < 16) ∧ bM x (k + 1) = 3) := by
  have hk' : k = 1 ∨ k = 2 ∨ k = 3 ∨ k = 4 ∨ k = 5 := by omega
  unfold bM
  rcases hk' with rfl | rfl | rfl | rfl | rfl
  all_goals
    by_cases a : 128 ≤ x
    · simp [a]; try omega
    · by_cases b : 64 ≤ x
      · simp [a, b]; try omega
      · by_cases c : 32 ≤ x
        · have d : 16 ≤ x := by omega
          simp [a, b, c, d]; try omega
        · by_cases d : 16 ≤ x
          · simp [a, b, c, d]; try omega
          · simp [a, b, c, d]; try omega
theorem dleT {a b : Int} (h : a ≤ b) : decide (a ≤ b) = true := decide_eq_true h
theorem dleF {a b : Int} (h : ¬ a ≤ b) : decide (a ≤ b) = false := decide_eq_false h
attribute [local irreducible] bM kindM
theorem pkind (x : Int) (h0 : 0 ≤ x) (h1 : x ≤ 255) : AEq Tryd.prog 42 [.lit (.int .u8 x)] [] (i64 (kindM x)) [] := by
  refine acall_body Tryd.func42 rfl Tryd.ntmps42 (by simp) (fun hsc => ?_); simp only [Lf.enter, Nat.reduceAdd]; clear hsc
  have hU := True.intro
  repeat' (first | (guard_target =~ PWp _ _ _ _ _ _ _; first | (refine pwp_seq_k (fun K hK => ?_)) | (refine pwp_block ?_) | (refine pwp_rg_then ?_)) | (guard_target =~ rg _ _ _ _ _ _ _; first | (guard_target =~ rg _ _ _ [] _ _ _; first | (refine rg_end ?_)) | (refine rg_a rfl (h := ?_))) | (refine hK _ _ ?_; clear hK K))
  refine pwp_loop_e [3, 4, 5, 6, 7, 8, 9, 10, 11, 12, 13, 14, 15, 16, 17, 18, 19, 20, 21, 22, 23, 24, 25, 26, 27] (fun s : Nat × Int => [(4, i64 s.1), (3, i64 s.2)]) (fun s => []) (fun s => 1 ≤ s.1 ∧ s.1 ≤ 6 ∧ s.2 = bM x s.1) (fun s => 6 - s.1) (1, 3) ⟨by decide, by decide, by unfold bM; rfl⟩ ?_ rfl ?_
  · dsimp only
    (refine ⟨⟨_, sT, ?_⟩, ⟨_, sT, ?_⟩, trivial⟩ <;> (try (first | exact aleT)))
  · rintro ⟨k, b⟩ ⟨hk1, hk6, hb⟩
    dsimp only at hk1 hk6 hb ⊢
    subst hb
    simp only [mask, List.map_cons, List.map_nil, List.cons_append, List.nil_append]
    by_cases h6 : k = 6
    · subst h6
      rw [bM_6]
      repeat' (first | (guard_target =~ PWp _ _ _ _ _ _ _; first | (refine pwp_seq_k (fun K hK => ?_)) | (refine pwp_rg_then ?_) | (refine pwp_ret ?_) | (refine pwp_exit ?_) | ((refine pwp_cond_d (fun hcd => ?_) (fun hcd => ?_)) <;> (try simp only [hcP] at hcd) <;> (try exact cdT))) | (guard_target =~ rg _ _ _ _ _ _ _; first | (guard_target =~ rg _ _ _ [] _ _ _; first | (refine rg_end ?_)) | (refine rg_a rfl (h := ?_)) | (refine rg_v rfl (h := ?_))) | (guard_target =~ (_ ∨ _) ∧ _; first | ((refine end_d [] (by rw [Tryd.results42, Lf.res1]) (ale_1 ?_) ?_) <;> (try (first | exact aleT | exact stq (by with_reducible rfl) | exact stq (by rfl) | exact stq (by simp (disch := omega) only [go_sem, seval, ↓reduceIte, hU]))))) | (refine hK _ _ ?_; clear hK K) | (apply_assumption (exfalso := false) (symm := false)))
    rcases kst x k h0 h1 hk1 (by omega) with ⟨rfl, e, c, e2⟩ | ⟨rfl, e, c, e2⟩ | ⟨rfl, e, c, e2⟩ | ⟨rfl, e, c, e2⟩ | ⟨rfl, e, c, e2⟩ | ⟨rfl, e, c, e2⟩ | ⟨rfl, e, c, e2⟩ | ⟨rfl, e, c, e2⟩ | ⟨rfl, e, c, e2⟩ | ⟨rfl, e, c, e2⟩ | ⟨rfl, e, c, e2⟩ | ⟨rfl, e, c, e2⟩ | ⟨rfl, e, c, e2⟩ | ⟨rfl, e, c, e2⟩ | ⟨rfl, e, c, e2⟩ | ⟨rfl, e, c, e2⟩ | ⟨rfl, e, c, e2⟩
    all_goals rw [e]
    all_goals (have hU := And.intro @dleT (@dleF))
    all_goals (repeat' (first | (guard_target =~ PWp _ _ _ _ _ _ _; first | (refine pwp_seq_k (fun K hK => ?_)) | (refine pwp_block ?_) | (refine pwp_rg_then ?_) | (refine pwp_rg ?_) | (refine pwp_draw mixed (by kernel_rfl) ?_) | (refine pwp_skip ?_) | ((refine pwp_cond_d (fun hcd => ?_) (fun hcd => ?_)) <;> (try simp only [hcP] at hcd) <;> (try exact cdT))) | (guard_target =~ rg _ _ _ _ _ _ _; first | (guard_target =~ rg _ _ _ [] _ _ _; first | (refine rg_end ?_)) | (refine rg_a rfl (h := ?_)) | (refine rg_v rfl (h := ?_))) | (guard_target =~ dg _ _ _ _ _ _ _; first | (guard_target =~ dg _ _ _ (⟨_, .move _, _, _, _, none⟩ :: _) _ _ _; first | (refine dg_v rfl (hk := ?_))) | (guard_target =~ dg _ _ _ (⟨_, .binOp _ _ _ _ _, _, _, _, none⟩ :: _) _ _ _; first | (refine dg_v rfl (hk := ?_))) | (guard_target =~ dg _ _ _ (⟨_, .fieldAddr _ _ _, _, _, _, some _⟩ :: _) _ _ _; first | (refine dg_gtp rfl (hk := ?_)) | (refine dg_gf rfl (hn := rfl) (hk := ?_))) | (guard_target =~ dg _ _ _ (⟨_, .load _ _, _, _, _, some _⟩ :: _) _ _ _; first | (refine dg_gtp rfl (hk := ?_)) | (refine dg_gf rfl (hn := rfl) (hk := ?_))) | (guard_target =~ dg _ _ _ (⟨_, .indexAddr _ _ _, _, _, _, some _⟩ :: _) _ _ _; first | (refine dg_gtp rfl (hk := ?_)) | (refine dg_gf rfl (hn := rfl) (hk := ?_)) | (refine dg_c (x := _) (h := ro_gt (h := n_index_arr rfl (hK := ro_end ⟨rfl, rfl⟩))) (hk := ?_))) | (guard_target =~ dg _ _ _ (⟨_, .move _, _, _, _, some _⟩ :: _) _ _ _; first | (refine dg_gtp rfl (hk := ?_)) | (refine dg_gf rfl (hn := rfl) (hk := ?_))) | (guard_target =~ dg _ _ _ (⟨_, .pick _ _ _, _, _, _, none⟩ :: _) _ _ _; first | (refine dg_v rfl (hk := ?_))) | (guard_target =~ dg _ _ _ (⟨_, .fieldAddr _ _ _, _, _, _, none⟩ :: _) _ _ _; first | (refine dg_v rfl (hk := ?_))) | (guard_target =~ dg _ _ _ (⟨_, .indexAddr _ _ _, _, _, _, none⟩ :: _) _ _ _; first | (refine dg_c (x := _) (h := ro_s (h := n_index_arr rfl (hK := ro_end ⟨rfl, rfl⟩))) (hk := ?_))) | (guard_target =~ dg _ _ _ (⟨_, .binOp _ _ _ _ _, _, _, _, some _⟩ :: _) _ _ _; first | (refine dg_gtp rfl (hk := ?_)) | (refine dg_gf rfl (hn := rfl) (hk := ?_))) | (guard_target =~ dg _ _ _ (⟨_, .load _ _, _, _, _, none⟩ :: _) _ _ _; first | (refine dg_v rfl (hk := ?_))) | (guard_target =~ dg _ _ _ (⟨_, .convert _ _ _, _, _, _, none⟩ :: _) _ _ _; first | (refine dg_v rfl (hk := ?_))) | (guard_target =~ dg _ _ _ [] _ _ _; first | (refine dg_nil ?_))) | (refine hK _ _ ?_; clear hK K)))
    all_goals (have hU := True.intro)
    all_goals (refine ⟨(_, _), ⟨?_, ?_, e2.symm⟩, ?_, ?_, (by repeat' (first | exact agr_refl | refine agr_cons (by rfl) ?_)), (by first | rfl | (simp (disch := omega) only [go_sem, seval, ↓reduceIte, hU]; done) | (simp (disch := omega) only [go_sem, seval, ↓reduceIte, hU]; rfl))⟩)
    all_goals dsimp only
    all_goals first | omega | ((refine ⟨⟨_, sT, ?_⟩, ⟨_, sT, ?_⟩, trivial⟩ <;> (try (first | exact aleT)))) | trace_state
theorem rkind (x : Int) (h0 : 0 ≤ x) (h1 : x ≤ 255) : AEq Tryd.prog 46 [.lit (.int .u8 x)] [] (i64 (kindM x)) [] := by
  unfold kindM
  by_cases a : 128 ≤ x
  · rw [if_pos a]
    refine acall_body Tryd.func46 rfl Tryd.ntmps46 (by simp) (fun hsc => ?_); simp only [Lf.enter, Nat.reduceAdd]; clear hsc
    have hU := True.intro
    repeat' (first | (guard_target =~ PWp _ _ _ _ _ _ _; first | (refine pwp_seq_k (fun K hK => ?_)) | (refine pwp_rg_then ?_) | (refine pwp_ret ?_) | ((refine pwp_cond_d (fun hcd => ?_) (fun hcd => ?_)) <;> (try simp only [hcP] at hcd) <;> (try exact cdT))) | (guard_target =~ rg _ _ _ _ _ _ _; first | (guard_target =~ rg _ _ _ [] _ _ _; first | (refine rg_end ?_)) | (refine rg_a rfl (h := ?_)) | (refine rg_v rfl (h := ?_))) | (guard_target =~ (_ ∨ _) ∧ _; first | ((refine end_d [] (by rw [Tryd.results46, Lf.res1]) (ale_1 ?_) ?_) <;> (try (first | exact aleT | exact stq (by with_reducible rfl) | exact stq (by rfl) | exact stq (by simp (disch := omega) only [go_sem, seval, ↓reduceIte, hU]))))) | (refine hK _ _ ?_; clear hK K))
  rw [if_neg a]
  by_cases b : 64 ≤ x
  · rw [if_pos b]
    refine acall_body Tryd.func46 rfl Tryd.ntmps46 (by simp) (fun hsc => ?_); simp only [Lf.enter, Nat.reduceAdd]; clear hsc
    have hU := True.intro
    repeat' (first | (guard_target =~ PWp _ _ _ _ _ _ _; first | (refine pwp_seq_k (fun K hK => ?_)) | (refine pwp_rg_then ?_) | (refine pwp_ret ?_) | (refine pwp_skip ?_) | ((refine pwp_cond_d (fun hcd => ?_) (fun hcd => ?_)) <;> (try simp only [hcP] at hcd) <;> (try exact cdT))) | (guard_target =~ rg _ _ _ _ _ _ _; first | (guard_target =~ rg _ _ _ [] _ _ _; first | (refine rg_end ?_)) | (refine rg_a rfl (h := ?_)) | (refine rg_v rfl (h := ?_))) | (guard_target =~ (_ ∨ _) ∧ _; first | ((refine end_d [] (by rw [Tryd.results46, Lf.res1]) (ale_1 ?_) ?_) <;> (try (first | exact aleT | exact stq (by with_reducible rfl) | exact stq (by rfl) | exact stq (by simp (disch := omega) only [go_sem, seval, ↓reduceIte, hU]))))) | (refine hK _ _ ?_; clear hK K))
  rw [if_neg b]
  by_cases c : 32 ≤ x
  · rw [if_pos c]
    refine acall_body Tryd.func46 rfl Tryd.ntmps46 (by simp) (fun hsc => ?_); simp only [Lf.enter, Nat.reduceAdd]; clear hsc
    have hU := True.intro
    repeat' (first | (guard_target =~ PWp _ _ _ _ _ _ _; first | (refine pwp_seq_k (fun K hK => ?_)) | (refine pwp_rg_then ?_) | (refine pwp_ret ?_) | (refine pwp_skip ?_) | ((refine pwp_cond_d (fun hcd => ?_) (fun hcd => ?_)) <;> (try simp only [hcP] at hcd) <;> (try exact cdT))) | (guard_target =~ rg _ _ _ _ _ _ _; first | (guard_target =~ rg _ _ _ [] _ _ _; first | (refine rg_end ?_)) | (refine rg_a rfl (h := ?_)) | (refine rg_v rfl (h := ?_))) | (guard_target =~ (_ ∨ _) ∧ _; first | ((refine end_d [] (by rw [Tryd.results46, Lf.res1]) (ale_1 ?_) ?_) <;> (try (first | exact aleT | exact stq (by with_reducible rfl) | exact stq (by rfl) | exact stq (by simp (disch := omega) only [go_sem, seval, ↓reduceIte, hU]))))) | (refine hK _ _ ?_; clear hK K))
  rw [if_neg c]
  by_cases d : 16 ≤ x
  · rw [if_pos d]
    refine acall_body Tryd.func46 rfl Tryd.ntmps46 (by simp) (fun hsc => ?_); simp only [Lf.enter, Nat.reduceAdd]; clear hsc
    have hU := True.intro
    repeat' (first | (guard_target =~ PWp _ _ _ _ _ _ _; first | (refine pwp_seq_k (fun K hK => ?_)) | (refine pwp_rg_then ?_) | (refine pwp_ret ?_) | (refine pwp_skip ?_) | ((refine pwp_cond_d (fun hcd => ?_) (fun hcd => ?_)) <;> (try simp only [hcP] at hcd) <;> (try exact cdT))) | (guard_target =~ rg _ _ _ _ _ _ _; first | (guard_target =~ rg _ _ _ [] _ _ _; first | (refine rg_end ?_)) | (refine rg_a rfl (h := ?_)) | (refine rg_v rfl (h := ?_))) | (guard_target =~ (_ ∨ _) ∧ _; first | ((refine end_d [] (by rw [Tryd.results46, Lf.res1]) (ale_1 ?_) ?_) <;> (try (first | exact aleT | exact stq (by with_reducible rfl) | exact stq (by rfl) | exact stq (by simp (disch := omega) only [go_sem, seval, ↓reduceIte, hU]))))) | (refine hK _ _ ?_; clear hK K))
  · rw [if_neg d]
    refine acall_body Tryd.func46 rfl Tryd.ntmps46 (by simp) (fun hsc => ?_); simp only [Lf.enter, Nat.reduceAdd]; clear hsc
    have hU := True.intro
    repeat' (first | (guard_target =~ PWp _ _ _ _ _ _ _; first | (refine pwp_seq_k (fun K hK => ?_)) | (refine pwp_rg_then ?_) | (refine pwp_ret ?_) | (refine pwp_skip ?_) | ((refine pwp_cond_d (fun hcd => ?_) (fun hcd => ?_)) <;> (try simp only [hcP] at hcd) <;> (try exact cdT))) | (guard_target =~ rg _ _ _ _ _ _ _; first | (guard_target =~ rg _ _ _ [] _ _ _; first | (refine rg_end ?_)) | (refine rg_a rfl (h := ?_)) | (refine rg_v rfl (h := ?_))) | (guard_target =~ (_ ∨ _) ∧ _; first | ((refine end_d [] (by rw [Tryd.results46, Lf.res1]) (ale_1 ?_) ?_) <;> (try (first | exact aleT | exact stq (by with_reducible rfl) | exact stq (by rfl) | exact stq (by simp (disch := omega) only [go_sem, seval, ↓reduceIte, hU]))))) | (refine hK _ _ ?_; clear hK K))
theorem rbegin (k : Int) : AEq Tryd.prog 47 [i64 k] [] (.tu [i64 (frI k), i64 (biI k)]) [] := by
  unfold frI biI
  by_cases a : k = 1
  · rw [if_pos a, if_pos a]
    refine acall_body Tryd.func47 rfl Tryd.ntmps47 (by simp) (fun hsc => ?_); simp only [Lf.enter, Nat.reduceAdd]; clear hsc
    have hU := True.intro
    repeat' (first | (guard_target =~ PWp _ _ _ _ _ _ _; first | (refine pwp_seq_k (fun K hK => ?_)) | (refine pwp_block ?_) | (refine pwp_rg_then ?_) | (refine pwp_ret ?_) | ((refine pwp_cond_d (fun hcd => ?_) (fun hcd => ?_)) <;> (try simp only [hcP] at hcd) <;> (try exact cdT))) | (guard_target =~ rg _ _ _ _ _ _ _; first | (guard_target =~ rg _ _ _ [] _ _ _; first | (refine rg_end ?_)) | (refine rg_a rfl (h := ?_)) | (refine rg_v rfl (h := ?_))) | (guard_target =~ (_ ∨ _) ∧ _; first | ((refine end_d [] (by rw [Tryd.results47, Lf.res2]) (ale_2 ?_ ?_) ?_) <;> (try (first | exact aleT | exact stq (by with_reducible rfl) | exact stq (by rfl) | exact stq (by simp (disch := omega) only [go_sem, seval, ↓reduceIte, hU]))))) | (refine hK _ _ ?_; clear hK K))
  rw [if_neg a, if_neg a]
  by_cases b : k = 2
  · rw [if_pos b, if_pos b]
    refine acall_body Tryd.func47 rfl Tryd.ntmps47 (by simp) (fun hsc => ?_); simp only [Lf.enter, Nat.reduceAdd]; clear hsc
    have hU := True.intro
    repeat' (first | (guard_target =~ PWp _ _ _ _ _ _ _; first | (refine pwp_seq_k (fun K hK => ?_)) | (refine pwp_block ?_) | (refine pwp_rg_then ?_) | (refine pwp_ret ?_) | ((refine pwp_cond_d (fun hcd => ?_) (fun hcd => ?_)) <;> (try simp only [hcP] at hcd) <;> (try exact cdT))) | (guard_target =~ rg _ _ _ _ _ _ _; first | (guard_target =~ rg _ _ _ [] _ _ _; first | (refine rg_end ?_)) | (refine rg_a rfl (h := ?_)) | (refine rg_v rfl (h := ?_))) | (guard_target =~ (_ ∨ _) ∧ _; first | ((refine end_d [] (by rw [Tryd.results47, Lf.res2]) (ale_2 ?_ ?_) ?_) <;> (try (first | exact aleT | exact stq (by with_reducible rfl) | exact stq (by rfl) | exact stq (by simp (disch := omega) only [go_sem, seval, ↓reduceIte, hU]))))) | (refine hK _ _ ?_; clear hK K))
  rw [if_neg b, if_neg b]
  by_cases c : k = 5
  · rw [if_pos c, if_pos c]
    refine acall_body Tryd.func47 rfl Tryd.ntmps47 (by simp) (fun hsc => ?_); simp only [Lf.enter, Nat.reduceAdd]; clear hsc
    have hU := True.intro
    repeat' (first | (guard_target =~ PWp _ _ _ _ _ _ _; first | (refine pwp_seq_k (fun K hK => ?_)) | (refine pwp_block ?_) | (refine pwp_rg_then ?_) | (refine pwp_ret ?_) | ((refine pwp_cond_d (fun hcd => ?_) (fun hcd => ?_)) <;> (try simp only [hcP] at hcd) <;> (try exact cdT))) | (guard_target =~ rg _ _ _ _ _ _ _; first | (guard_target =~ rg _ _ _ [] _ _ _; first | (refine rg_end ?_)) | (refine rg_a rfl (h := ?_)) | (refine rg_v rfl (h := ?_))) | (guard_target =~ (_ ∨ _) ∧ _; first | ((refine end_d [] (by rw [Tryd.results47, Lf.res2]) (ale_2 ?_ ?_) ?_) <;> (try (first | exact aleT | exact stq (by with_reducible rfl) | exact stq (by rfl) | exact stq (by simp (disch := omega) only [go_sem, seval, ↓reduceIte, hU]))))) | (refine hK _ _ ?_; clear hK K))
  rw [if_neg c, if_neg c]
  by_cases d : k = 4
  · rw [if_pos d]
    refine acall_body Tryd.func47 rfl Tryd.ntmps47 (by simp) (fun hsc => ?_); simp only [Lf.enter, Nat.reduceAdd]; clear hsc
    have hU := True.intro
    repeat' (first | (guard_target =~ PWp _ _ _ _ _ _ _; first | (refine pwp_seq_k (fun K hK => ?_)) | (refine pwp_block ?_) | (refine pwp_rg_then ?_) | (refine pwp_ret ?_) | ((refine pwp_cond_d (fun hcd => ?_) (fun hcd => ?_)) <;> (try simp only [hcP] at hcd) <;> (try exact cdT))) | (guard_target =~ rg _ _ _ _ _ _ _; first | (guard_target =~ rg _ _ _ [] _ _ _; first | (refine rg_end ?_)) | (refine rg_a rfl (h := ?_)) | (refine rg_v rfl (h := ?_))) | (guard_target =~ (_ ∨ _) ∧ _; first | ((refine end_d [] (by rw [Tryd.results47, Lf.res2]) (ale_2 ?_ ?_) ?_) <;> (try (first | exact aleT | exact stq (by with_reducible rfl) | exact stq (by rfl) | exact stq (by simp (disch := omega) only [go_sem, seval, ↓reduceIte, hU]))))) | (refine hK _ _ ?_; clear hK K))
  · rw [if_neg d]
    refine acall_body Tryd.func47 rfl Tryd.ntmps47 (by simp) (fun hsc => ?_); simp only [Lf.enter, Nat.reduceAdd]; clear hsc
    have hU := True.intro
    repeat' (first | (guard_target =~ PWp _ _ _ _ _ _ _; first | (refine pwp_seq_k (fun K hK => ?_)) | (refine pwp_block ?_) | (refine pwp_rg_then ?_) | (refine pwp_ret ?_) | (refine pwp_skip ?_) | ((refine pwp_cond_d (fun hcd => ?_) (fun hcd => ?_)) <;> (try simp only [hcP] at hcd) <;> (try exact cdT))) | (guard_target =~ rg _ _ _ _ _ _ _; first | (guard_target =~ rg _ _ _ [] _ _ _; first | (refine rg_end ?_)) | (refine rg_a rfl (h := ?_)) | (refine rg_v rfl (h := ?_))) | (guard_target =~ (_ ∨ _) ∧ _; first | ((refine end_d [] (by rw [Tryd.results47, Lf.res2]) (ale_2 ?_ ?_) ?_) <;> (try (first | exact aleT | exact stq (by with_reducible rfl) | exact stq (by rfl) | exact stq (by simp (disch := omega) only [go_sem, seval, ↓reduceIte, hU]))))) | (refine hK _ _ ?_; clear hK K))
theorem ptexts (k : Int) : AEq Tryd.prog 44 [i64 k] [] (bl (txB k)) [] := by
  refine acall_body Tryd.func44 rfl Tryd.ntmps44 (by simp) (fun hsc => ?_); simp only [Lf.enter, Nat.reduceAdd]; clear hsc
  have hU := True.intro
  repeat' (first | (guard_target =~ PWp _ _ _ _ _ _ _; first | (refine pwp_seq_k (fun K hK => ?_)) | (refine pwp_rg_then ?_) | (refine pwp_ret ?_)) | (guard_target =~ rg _ _ _ _ _ _ _; first | (guard_target =~ rg _ _ _ (⟨_, .binOp _ _ _ _ _, _, _, _, some _⟩ :: _) _ _ _; first | (refine rg_gq rfl (h := ?_))) | (guard_target =~ rg _ _ _ (⟨_, .move _, _, _, _, some _⟩ :: _) _ _ _; first | (refine rg_gq rfl (h := ?_))) | (guard_target =~ rg _ _ _ [] _ _ _; first | (refine rg_end ?_)) | (refine rg_a rfl (h := ?_)) | (refine rg_v rfl (h := ?_))) | (guard_target =~ (_ ∨ _) ∧ _; first | ((refine end_d [] (by rw [Tryd.results44, Lf.res1]) (ale_1 ?_) ?_) <;> (try (first | exact aleT | exact stq (by with_reducible rfl) | exact stq (by rfl) | exact stq (by simp (disch := omega) only [go_sem, seval, ↓reduceIte, hU]))))) | (refine hK _ _ ?_; clear hK K))
  all_goals exact ale_eq rfl
end Go.Proofs.YtohbfcmmpaikhaaDoor

set_option linter.unusedVariables false
set_option linter.unusedSimpArgs false
namespace Go.Proofs.YtohbfcmmpaikhaaDoor
open Go Go.Lf Go.Proofs
attribute [local irreducible] Lf.rg Lf.ro Lf.PWp Lf.SOp Lf.ACall Lf.Scoped Lf.dg Lf.dw
set_option maxRecDepth 20000
set_option maxHeartbeats 4000000
def RP (k i : Int) (nm : List UInt8) (ns : Bool) (vl : List UInt8) (vs : Bool) (sz : Int) : Prop :=
  (1 ≤ k ∧ k ≤ 5) ∧ (0 ≤ i ∧ i ≤ 2147483647) ∧ (0 ≤ sz ∧ sz ≤ 2147483647) ∧ ((k = 5 ∧ i = 0 ∧ (nm = [] ∧ ns = false) ∧ (vl = [] ∧ vs = false)) ∨ (k = 1 ∧ sz = 0 ∧ 0 < i ∧ (nm = [] ∧ ns = false) ∧ (vl = [] ∧ vs = false)) ∨ (k ≠ 5 ∧ k ≠ 1 ∧ sz = 0 ∧ (i = 0 ∨ (nm = [] ∧ ns = false))))
instance (k i : Int) (nm : List UInt8) (ns : Bool) (vl : List UInt8) (vs : Bool) (sz : Int) : Decidable (RP k i nm ns vl vs sz) := by unfold RP; exact inferInstance
def rOk (k i : Int) (nm : List UInt8) (ns : Bool) (vl : List UInt8) (vs : Bool) (sz : Int) : Bool := decide (RP k i nm ns vl vs sz)
end Go.Proofs.YtohbfcmmpaikhaaDoor

set_option linter.unusedVariables false
set_option linter.unusedSimpArgs false
namespace Go.Proofs.YtohbfcmmpaikhaaDoor
open Go Go.Lf Go.Proofs
attribute [local irreducible] Lf.rg Lf.ro Lf.PWp Lf.SOp Lf.ACall Lf.Scoped Lf.dg Lf.dw
set_option maxRecDepth 20000
set_option maxHeartbeats 4000000
def rpB (k i : Int) (nm : List UInt8) (ns : Bool) (vl : List UInt8) (vs : Bool) (sz : Int) : List UInt8 :=
  pfxP (frI k) (biI k) (i + sz) ++ (if txB k = true then (if i = 0 then slP ns nm else []) ++ slP vs vl else [])
attribute [local irreducible] pfxP slP rOk rpB frI biI txB pwI
end Go.Proofs.YtohbfcmmpaikhaaDoor

set_option linter.unusedVariables false
set_option linter.unusedSimpArgs false
namespace Go.Proofs.YtohbfcmmpaikhaaDoor
open Go Go.Lf Go.Proofs
attribute [local irreducible] Lf.rg Lf.ro Lf.PWp Lf.SOp Lf.ACall Lf.Scoped Lf.dg Lf.dw
set_option maxRecDepth 20000
set_option maxHeartbeats 4000000
theorem slG_bd (b : List UInt8) (most : Int) : 0 ≤ (slG b most).2.2.1 ∧ (slG b most).2.2.1 ≤ (b.length : Int) := by
  have hbd := pgG_bd b (c := 7) (by decide) (by decide)
  rcases slG_cases b most with ⟨h1, h2⟩ | ⟨h1, h0, h3, h2⟩ | ⟨h1, h0, h3, h4, h2⟩ | ⟨h1, h0, h3, h4⟩
  · rw [h2]; dsimp only; omega
  · rw [h2]; dsimp only; omega
  · rw [h2]; dsimp only; omega
  · obtain ⟨k0, hk⟩ : ∃ j : Nat, (pgG b 7).2.1 = j := ⟨(pgG b 7).2.1.toNat, by omega⟩
    obtain ⟨n0, hn⟩ : ∃ j : Nat, (pgG b 7).1 = j := ⟨(pgG b 7).1.toNat, by omega⟩
    have h40 := h4
    rw [hk, hn] at h40
    cases hh : hiB b with
    | false => rw [slG_lit h1 h3 h4 hk hn hh]; dsimp only; omega
    | true =>
      by_cases h5 : (huM (bitsL (cutB b k0 n0)) 0 0 []).2 = 0
      · rw [slG_cod h1 h3 h4 hk hn hh h5]; dsimp only; omega
      · rw [slG_bad h1 h3 h4 hk hn hh h5]; dsimp only; omega
structure Rp where
  (k i : Int) (nm : List UInt8) (ns : Bool) (vl : List UInt8) (vs : Bool) (sz n e : Int)
def rpNo (e : Int) : Rp := ⟨0, 0, [], false, [], false, 0, 0, e⟩
def rgV (b : List UInt8) (k i : Int) (nm : List UInt8) (ns : Bool) (a : Nat) : Rp :=
  if (slG (b.drop a) (b.length : Int)).2.2.2 ≠ 0 then rpNo (slG (b.drop a) (b.length : Int)).2.2.2
  else ⟨k, i, nm, ns, (slG (b.drop a) (b.length : Int)).1, (slG (b.drop a) (b.length : Int)).2.1, 0, (a : Int) + (slG (b.drop a) (b.length : Int)).2.2.1, 0⟩
def rgN (b : List UInt8) (k : Int) (a : Nat) : Rp :=
  if (slG (b.drop a) (b.length : Int)).2.2.2 ≠ 0 then rpNo (slG (b.drop a) (b.length : Int)).2.2.2
  else rgV b k 0 (slG (b.drop a) (b.length : Int)).1 (slG (b.drop a) (b.length : Int)).2.1 (a + (slG (b.drop a) (b.length : Int)).2.2.1.toNat)
def rgK (b : List UInt8) (k : Int) (p : Int × Int × Int) : Rp :=
  if p.2.2 ≠ 0 then rpNo p.2.2
  else if k = 5 then ⟨5, 0, [], false, [], false, p.1, p.2.1, 0⟩
  else if k = 1 then (if p.1 = 0 then rpNo 12 else ⟨1, p.1, [], false, [], false, 0, p.2.1, 0⟩)
  else if p.1 = 0 then rgN b k p.2.1.toNat
  else rgV b k p.1 [] false p.2.1.toNat
def rgM (b : List UInt8) : Rp := match b[0]? with
  | none => rpNo 3
  | some x => rgK b (kindM x.toNat) (pgG b (biI (kindM x.toNat)))
theorem rgM_none {b : List UInt8} (h : b[0]? = none) : rgM b = rpNo 3 := by rw [rgM, h]
theorem rgM_some {b : List UInt8} {x : UInt8} {k : Int} {p : Int × Int × Int} (h : b[0]? = some x) (hk : kindM x.toNat = k) (hp : pgG b (biI k) = p) : rgM b = rgK b k p := by rw [rgM, h]; dsimp only; rw [hk, hp]
theorem rgK_e {b : List UInt8} {k n j e : Int} (h : e ≠ 0) : rgK b k (n, j, e) = rpNo e := by rw [rgK, if_pos h]
theorem rgK_5 {b : List UInt8} {n j : Int} : rgK b 5 (n, j, 0) = ⟨5, 0, [], false, [], false, n, j, 0⟩ := rfl
theorem rgK_10 {b : List UInt8} {j : Int} : rgK b 1 (0, j, 0) = rpNo 12 := rfl
theorem rgK_1 {b : List UInt8} {n j : Int} (h : ¬ n = 0) : rgK b 1 (n, j, 0) = ⟨1, n, [], false, [], false, 0, j, 0⟩ := by
  rw [rgK, if_neg (by simp), if_neg (by decide), if_pos rfl, if_neg h]
theorem rgK_n {b : List UInt8} {k : Int} {j : Nat} (h5 : k ≠ 5) (h1 : k ≠ 1) : rgK b k (0, j, 0) = rgN b k j := by
  rw [rgK, if_neg (by simp), if_neg h5, if_neg h1, if_pos rfl, Int.toNat_natCast]
theorem rgK_v {b : List UInt8} {k n : Int} {j : Nat} (h5 : k ≠ 5) (h1 : k ≠ 1) (h : ¬ n = 0) : rgK b k (n, j, 0) = rgV b k n [] false j := by
  rw [rgK, if_neg (by simp), if_neg h5, if_neg h1, if_neg h, Int.toNat_natCast]
theorem rgV_e {b : List UInt8} {k i : Int} {nm : List UInt8} {ns : Bool} {a : Nat} {t : List UInt8} {s : Bool} {j e : Int} (h : slG (b.drop a) (b.length : Int) = (t, s, j, e)) (he : e ≠ 0) : rgV b k i nm ns a = rpNo e := by
  rw [rgV, h, if_pos he]
theorem rgV_ok {b : List UInt8} {k i : Int} {nm : List UInt8} {ns : Bool} {a : Nat} {t : List UInt8} {s : Bool} {j : Int} (h : slG (b.drop a) (b.length : Int) = (t, s, j, 0)) : rgV b k i nm ns a = ⟨k, i, nm, ns, t, s, 0, (a : Int) + j, 0⟩ := by
  rw [rgV, h, if_neg (by simp)]
theorem rgN_e {b : List UInt8} {k : Int} {a : Nat} {t : List UInt8} {s : Bool} {j e : Int} (h : slG (b.drop a) (b.length : Int) = (t, s, j, e)) (he : e ≠ 0) : rgN b k a = rpNo e := by
  rw [rgN, h, if_pos he]
theorem rgN_ok {b : List UInt8} {k : Int} {a : Nat} {t : List UInt8} {s : Bool} {j : Nat} (h : slG (b.drop a) (b.length : Int) = (t, s, (j : Int), 0)) : rgN b k a = rgV b k 0 t s (a + j) := by
  rw [rgN, h, if_neg (by simp)]; dsimp only; rw [Int.toNat_natCast]
theorem kindM_in {x : Int} (h0 : 0 ≤ x) : kindM x = 1 ∨ kindM x = 2 ∨ kindM x = 3 ∨ kindM x = 4 ∨ kindM x = 5 := by
  unfold kindM
  split
  · exact .inl rfl
  split
  · exact .inr (.inl rfl)
  split
  · exact .inr (.inr (.inr (.inr rfl)))
  split
  · exact .inr (.inr (.inr (.inl rfl)))
  · exact .inr (.inr (.inl rfl))
theorem forms_at {k : Int} (h : k = 1 ∨ k = 2 ∨ k = 3 ∨ k = 4 ∨ k = 5) : ∃ tl, List.drop (k.toNat * 2) [AV.lit (.int .i64 0), AV.lit (.int .i64 0), AV.lit (.int .i64 128), AV.lit (.int .i64 7), AV.lit (.int .i64 64), AV.lit (.int .i64 6), AV.lit (.int .i64 0), AV.lit (.int .i64 4), AV.lit (.int .i64 16), AV.lit (.int .i64 4), AV.lit (.int .i64 32), AV.lit (.int .i64 5)] = i64 (frI k) :: i64 (biI k) :: tl := by
  rcases h with rfl | rfl | rfl | rfl | rfl
  all_goals exact ⟨_, rfl⟩
theorem biI_bd {k : Int} (h : k = 1 ∨ k = 2 ∨ k = 3 ∨ k = 4 ∨ k = 5) : 4 ≤ biI k ∧ biI k ≤ 7 := by
  rcases h with rfl | rfl | rfl | rfl | rfl
  all_goals decide
theorem biI_5 : biI 5 = 5 := by decide
theorem biI_1 : biI 1 = 7 := by decide
theorem txB_1 : txB 1 = false := by decide
theorem txB_m {k : Int} (h : k = 1 ∨ k = 2 ∨ k = 3 ∨ k = 4 ∨ k = 5) (h1 : k ≠ 1) (h5 : k ≠ 5) : txB k = true := by
  obtain rfl | rfl | rfl : k = 2 ∨ k = 3 ∨ k = 4 := by omega
  all_goals decide
attribute [local irreducible] pgG slG kindM frI biI txB
theorem rrget0 (f q : Bool) (b : List UInt8) (hb : b.length ≤ 100000) (k i : Int) (nm : List UInt8) (ns : Bool) (vl : List UInt8) (vs : Bool) (sz n e : Int) (htot : rgM b = ⟨k, i, nm, ns, vl, vs, sz, n, e⟩) : AEq Tryd.prog 14 [.sl f q (b.map byteA)] [] (.tu [.ag [i64 k, i64 i, .lit (.string ⟨nm.toArray⟩), bl ns, .lit (.string ⟨vl.toArray⟩), bl vs, i64 sz], i64 n, i64 e]) [] := by
  by_cases hbe : b.length = 0
  · rw [rgM_none (List.getElem?_eq_none (by omega))] at htot
    obtain ⟨rfl, rfl, rfl, rfl, rfl, rfl, rfl, rfl, rfl⟩ : 0 = k ∧ 0 = i ∧ [] = nm ∧ false = ns ∧ [] = vl ∧ false = vs ∧ 0 = sz ∧ 0 = n ∧ 3 = e := by simpa only [rpNo, Rp.mk.injEq] using htot
    refine acall_body Tryd.func14 rfl Tryd.ntmps14 (by simp) (fun hsc => ?_); simp only [Lf.enter, Nat.reduceAdd]; clear hsc
    have hU := True.intro
    repeat' (first | (guard_target =~ PWp _ _ _ _ _ _ _; first | (refine pwp_seq_k (fun K hK => ?_)) | (refine pwp_rg_then ?_) | (refine pwp_ret ?_) | ((refine pwp_cond_d (fun hcd => ?_) (fun hcd => ?_)) <;> (try simp only [hcP] at hcd) <;> (try exact cdT))) | (guard_target =~ rg _ _ _ _ _ _ _; first | (guard_target =~ rg _ _ _ [] _ _ _; first | (refine rg_end ?_)) | (refine rg_a rfl (h := ?_)) | (refine rg_v rfl (h := ?_)) | (refine rg_s rfl ?_) | (refine rg_n rfl ?_)) | (guard_target =~ SOp _ _ _ _ _ _; first | (guard_target =~ SOp _ _ ⟨_, .store _ _ _, _, _, _, none⟩ _ _ _; first | (refine n_store rfl (hK := ?_))) | (guard_target =~ SOp _ _ ⟨_, .build _ _, _, _, _, none⟩ _ _ _; first | (refine n_build rfl (by first | exact bd32 | fail) (hK := ?_))) | (guard_target =~ SOp _ _ ⟨_, .alloc _, _, _, _, none⟩ _ _ _; first | (refine n_alloc rfl (by first | exact zv3 | exact zv4 | exact zv5 | exact zv9 | exact zv22 | exact zv28 | exact zv32 | fail) (hK := ?_)))) | (guard_target =~ (_ ∨ _) ∧ _; first | ((refine end_q [] (by first | exact .inr rfl | exact .inl rfl | fail) (by rfl) (by rw [Tryd.results14]; exact Lf.resM3 (by (try simp (disch := omega) only [Lf.resOne, go_sem, seval, ↓reduceIte, hU]); rfl) (by (try simp (disch := omega) only [Lf.resOne, go_sem, seval, ↓reduceIte, hU]); rfl) (by (try simp (disch := omega) only [Lf.resOne, go_sem, seval, ↓reduceIte, hU]); rfl)) sT sT (ale_3 ?_ ?_ ?_) ?_) <;> (try (first | exact aleT | exact stq (by with_reducible rfl) | exact stq (by rfl) | exact stq (by simp (disch := omega) only [go_sem, seval, ↓reduceIte, hU]))))) | (refine hK _ _ ?_; clear hK K))
  obtain ⟨x, hx⟩ := ex_at (l := b) (i := 0) (by omega)
  have hxl := x.toNat_lt
  obtain ⟨κ, hkm⟩ : ∃ c, kindM (x.toNat : Int) = c := ⟨_, rfl⟩
  have hκ := kindM_in (x := (x.toNat : Int)) (by omega)
  rw [hkm] at hκ
  have hcb := biI_bd hκ
  have hbd := pgG_bd b (c := biI κ) (by omega) (by omega)
  obtain ⟨⟨pn, pk, pe⟩, hp⟩ : ∃ p, pgG b (biI κ) = p := ⟨_, rfl⟩
  rw [rgM_some hx hkm hp] at htot
  rw [hp] at hbd
  dsimp only at hbd
  obtain ⟨a, rfl⟩ : ∃ j : Nat, pk = j := ⟨pk.toNat, by omega⟩
  by_cases hpe : pe = 0
  rotate_left
  · rw [rgK_e hpe] at htot
    obtain ⟨rfl, rfl, rfl, rfl, rfl, rfl, rfl, rfl, rfl⟩ : 0 = k ∧ 0 = i ∧ [] = nm ∧ false = ns ∧ [] = vl ∧ false = vs ∧ 0 = sz ∧ 0 = n ∧ pe = e := by simpa only [rpNo, Rp.mk.injEq] using htot
    refine acall_body Tryd.func14 rfl Tryd.ntmps14 (by simp) (fun hsc => ?_); simp only [Lf.enter, Nat.reduceAdd]; clear hsc
    have hU := And.intro @hkm (@hp)
    repeat' (first | (guard_target =~ PWp _ _ _ _ _ _ _; first | (refine pwp_seq_k (fun K hK => ?_)) | (refine pwp_rg_then ?_) | (refine pwp_ret ?_) | (refine pwp_skip ?_) | ((refine pwp_cond_d (fun hcd => ?_) (fun hcd => ?_)) <;> (try simp only [hcP] at hcd) <;> (try exact cdT))) | (guard_target =~ rg _ _ _ _ _ _ _; first | (guard_target =~ rg _ _ _ [] _ _ _; first | (refine rg_end ?_)) | (refine rg_a rfl (h := ?_)) | (refine rg_x rfl (hy := rfl) (h := ?_)) | (refine rg_v rfl (h := ?_)) | (refine rg_s rfl ?_) | (refine rg_n rfl ?_)) | (guard_target =~ SOp _ _ _ _ _ _; first | (guard_target =~ SOp _ _ ⟨_, .store _ _ _, _, _, _, none⟩ _ _ _; first | (refine n_store rfl (hK := ?_))) | (guard_target =~ SOp _ _ ⟨_, .build _ _, _, _, _, none⟩ _ _ _; first | (refine n_build rfl (by first | exact bd32 | fail) (hK := ?_))) | (guard_target =~ SOp _ _ ⟨_, .alloc _, _, _, _, none⟩ _ _ _; first | (refine n_alloc rfl (by first | exact zv3 | exact zv4 | exact zv5 | exact zv9 | exact zv22 | exact zv28 | exact zv32 | fail) (hK := ?_))) | (guard_target =~ SOp _ _ ⟨_, .call ⟨.value (.func 48), _, _⟩, _, _, _, none⟩ _ _ _; first | (refine n_call (f := 48) rfl Tryd.call48 (h := AEq.pure' agT (rget18 _ _ _ (by omega) _ (by omega) (by omega)) (hq := ?_)))) | (guard_target =~ SOp _ _ ⟨_, .call ⟨.value (.func 46), _, _⟩, _, _, _, none⟩ _ _ _; first | (refine n_call (f := 46) rfl Tryd.call46 (h := AEq.pure' agT (rkind _ (by omega) (by omega)) (hq := ?_)))) | (guard_target =~ SOp _ _ ⟨_, .call ⟨.value (.func 47), _, _⟩, _, _, _, none⟩ _ _ _; first | (refine n_call (f := 47) rfl Tryd.call47 (h := AEq.pure' agT (rbegin _) (hq := ?_)))) | (guard_target =~ SOp _ _ ⟨_, .indexAddr _ _ _, _, _, _, none⟩ _ _ _; first | (refine n_index rfl (hK := ?_)))) | (guard_target =~ (_ ∨ _) ∧ _; first | ((refine end_q [] (by first | exact .inr rfl | exact .inl rfl | fail) (by rfl) (by rw [Tryd.results14]; exact Lf.resM3 (by (try simp (disch := omega) only [Lf.resOne, go_sem, seval, ↓reduceIte, hU]); rfl) (by (try simp (disch := omega) only [Lf.resOne, go_sem, seval, ↓reduceIte, hU]); rfl) (by (try simp (disch := omega) only [Lf.resOne, go_sem, seval, ↓reduceIte, hU]); rfl)) sT sT (ale_3 ?_ ?_ ?_) ?_) <;> (try (first | exact aleT | exact stq (by with_reducible rfl) | exact stq (by rfl) | exact stq (by simp (disch := omega) only [go_sem, seval, ↓reduceIte, hU]))))) | (refine hK _ _ ?_; clear hK K))
  subst hpe
  by_cases h5 : κ = 5
  · subst h5
    rw [rgK_5] at htot
    obtain ⟨rfl, rfl, rfl, rfl, rfl, rfl, rfl, rfl, rfl⟩ : 5 = k ∧ 0 = i ∧ [] = nm ∧ false = ns ∧ [] = vl ∧ false = vs ∧ pn = sz ∧ (a : Int) = n ∧ 0 = e := by simpa only [rpNo, Rp.mk.injEq] using htot
    refine acall_body Tryd.func14 rfl Tryd.ntmps14 (by simp) (fun hsc => ?_); simp only [Lf.enter, Nat.reduceAdd]; clear hsc
    have hU := And.intro @hkm (@hp)
    repeat' (first | (guard_target =~ PWp _ _ _ _ _ _ _; first | (refine pwp_seq_k (fun K hK => ?_)) | (refine pwp_rg_then ?_) | (refine pwp_ret ?_) | (refine pwp_skip ?_) | ((refine pwp_cond_d (fun hcd => ?_) (fun hcd => ?_)) <;> (try simp only [hcP] at hcd) <;> (try exact cdT))) | (guard_target =~ rg _ _ _ _ _ _ _; first | (guard_target =~ rg _ _ _ [] _ _ _; first | (refine rg_end ?_)) | (refine rg_a rfl (h := ?_)) | (refine rg_x rfl (hy := rfl) (h := ?_)) | (refine rg_v rfl (h := ?_)) | (refine rg_s rfl ?_) | (refine rg_n rfl ?_)) | (guard_target =~ SOp _ _ _ _ _ _; first | (guard_target =~ SOp _ _ ⟨_, .store _ _ _, _, _, _, none⟩ _ _ _; first | (refine n_store rfl (hK := ?_))) | (guard_target =~ SOp _ _ ⟨_, .build _ _, _, _, _, none⟩ _ _ _; first | (refine n_build rfl (by first | exact bd32 | fail) (hK := ?_))) | (guard_target =~ SOp _ _ ⟨_, .alloc _, _, _, _, none⟩ _ _ _; first | (refine n_alloc rfl (by first | exact zv3 | exact zv4 | exact zv5 | exact zv9 | exact zv22 | exact zv28 | exact zv32 | fail) (hK := ?_))) | (guard_target =~ SOp _ _ ⟨_, .call ⟨.value (.func 48), _, _⟩, _, _, _, none⟩ _ _ _; first | (refine n_call (f := 48) rfl Tryd.call48 (h := AEq.pure' agT (rget18 _ _ _ (by omega) _ (by omega) (by omega)) (hq := ?_)))) | (guard_target =~ SOp _ _ ⟨_, .call ⟨.value (.func 46), _, _⟩, _, _, _, none⟩ _ _ _; first | (refine n_call (f := 46) rfl Tryd.call46 (h := AEq.pure' agT (rkind _ (by omega) (by omega)) (hq := ?_)))) | (guard_target =~ SOp _ _ ⟨_, .call ⟨.value (.func 47), _, _⟩, _, _, _, none⟩ _ _ _; first | (refine n_call (f := 47) rfl Tryd.call47 (h := AEq.pure' agT (rbegin _) (hq := ?_)))) | (guard_target =~ SOp _ _ ⟨_, .indexAddr _ _ _, _, _, _, none⟩ _ _ _; first | (refine n_index rfl (hK := ?_)))) | (guard_target =~ (_ ∨ _) ∧ _; first | ((refine end_q [] (by first | exact .inr rfl | exact .inl rfl | fail) (by rfl) (by rw [Tryd.results14]; exact Lf.resM3 (by (try simp (disch := omega) only [Lf.resOne, go_sem, seval, ↓reduceIte, hU]); rfl) (by (try simp (disch := omega) only [Lf.resOne, go_sem, seval, ↓reduceIte, hU]); rfl) (by (try simp (disch := omega) only [Lf.resOne, go_sem, seval, ↓reduceIte, hU]); rfl)) sT sT (ale_3 ?_ ?_ ?_) ?_) <;> (try (first | exact aleT | exact stq (by with_reducible rfl) | exact stq (by rfl) | exact stq (by simp (disch := omega) only [go_sem, seval, ↓reduceIte, hU]))))) | (refine hK _ _ ?_; clear hK K))
  by_cases h1 : κ = 1
  · subst h1
    by_cases hn0 : pn = 0
    · subst hn0
      rw [rgK_10] at htot
      obtain ⟨rfl, rfl, rfl, rfl, rfl, rfl, rfl, rfl, rfl⟩ : 0 = k ∧ 0 = i ∧ [] = nm ∧ false = ns ∧ [] = vl ∧ false = vs ∧ 0 = sz ∧ 0 = n ∧ 12 = e := by simpa only [rpNo, Rp.mk.injEq] using htot
      refine acall_body Tryd.func14 rfl Tryd.ntmps14 (by simp) (fun hsc => ?_); simp only [Lf.enter, Nat.reduceAdd]; clear hsc
      have hU := And.intro @hkm (@hp)
      repeat' (first | (guard_target =~ PWp _ _ _ _ _ _ _; first | (refine pwp_seq_k (fun K hK => ?_)) | (refine pwp_rg_then ?_) | (refine pwp_ret ?_) | (refine pwp_skip ?_) | ((refine pwp_cond_d (fun hcd => ?_) (fun hcd => ?_)) <;> (try simp only [hcP] at hcd) <;> (try exact cdT))) | (guard_target =~ rg _ _ _ _ _ _ _; first | (guard_target =~ rg _ _ _ [] _ _ _; first | (refine rg_end ?_)) | (refine rg_a rfl (h := ?_)) | (refine rg_x rfl (hy := rfl) (h := ?_)) | (refine rg_v rfl (h := ?_)) | (refine rg_s rfl ?_) | (refine rg_n rfl ?_)) | (guard_target =~ SOp _ _ _ _ _ _; first | (guard_target =~ SOp _ _ ⟨_, .store _ _ _, _, _, _, none⟩ _ _ _; first | (refine n_store rfl (hK := ?_))) | (guard_target =~ SOp _ _ ⟨_, .build _ _, _, _, _, none⟩ _ _ _; first | (refine n_build rfl (by first | exact bd32 | fail) (hK := ?_))) | (guard_target =~ SOp _ _ ⟨_, .alloc _, _, _, _, none⟩ _ _ _; first | (refine n_alloc rfl (by first | exact zv3 | exact zv4 | exact zv5 | exact zv9 | exact zv22 | exact zv28 | exact zv32 | fail) (hK := ?_))) | (guard_target =~ SOp _ _ ⟨_, .call ⟨.value (.func 48), _, _⟩, _, _, _, none⟩ _ _ _; first | (refine n_call (f := 48) rfl Tryd.call48 (h := AEq.pure' agT (rget18 _ _ _ (by omega) _ (by omega) (by omega)) (hq := ?_)))) | (guard_target =~ SOp _ _ ⟨_, .call ⟨.value (.func 46), _, _⟩, _, _, _, none⟩ _ _ _; first | (refine n_call (f := 46) rfl Tryd.call46 (h := AEq.pure' agT (rkind _ (by omega) (by omega)) (hq := ?_)))) | (guard_target =~ SOp _ _ ⟨_, .call ⟨.value (.func 47), _, _⟩, _, _, _, none⟩ _ _ _; first | (refine n_call (f := 47) rfl Tryd.call47 (h := AEq.pure' agT (rbegin _) (hq := ?_)))) | (guard_target =~ SOp _ _ ⟨_, .indexAddr _ _ _, _, _, _, none⟩ _ _ _; first | (refine n_index rfl (hK := ?_)))) | (guard_target =~ (_ ∨ _) ∧ _; first | ((refine end_q [] (by first | exact .inr rfl | exact .inl rfl | fail) (by rfl) (by rw [Tryd.results14]; exact Lf.resM3 (by (try simp (disch := omega) only [Lf.resOne, go_sem, seval, ↓reduceIte, hU]); rfl) (by (try simp (disch := omega) only [Lf.resOne, go_sem, seval, ↓reduceIte, hU]); rfl) (by (try simp (disch := omega) only [Lf.resOne, go_sem, seval, ↓reduceIte, hU]); rfl)) sT sT (ale_3 ?_ ?_ ?_) ?_) <;> (try (first | exact aleT | exact stq (by with_reducible rfl) | exact stq (by rfl) | exact stq (by simp (disch := omega) only [go_sem, seval, ↓reduceIte, hU]))))) | (refine hK _ _ ?_; clear hK K))
    · rw [rgK_1 hn0] at htot
      obtain ⟨rfl, rfl, rfl, rfl, rfl, rfl, rfl, rfl, rfl⟩ : 1 = k ∧ pn = i ∧ [] = nm ∧ false = ns ∧ [] = vl ∧ false = vs ∧ 0 = sz ∧ (a : Int) = n ∧ 0 = e := by simpa only [rpNo, Rp.mk.injEq] using htot
      refine acall_body Tryd.func14 rfl Tryd.ntmps14 (by simp) (fun hsc => ?_); simp only [Lf.enter, Nat.reduceAdd]; clear hsc
      have hU := And.intro @hkm (@hp)
      repeat' (first | (guard_target =~ PWp _ _ _ _ _ _ _; first | (refine pwp_seq_k (fun K hK => ?_)) | (refine pwp_rg_then ?_) | (refine pwp_ret ?_) | (refine pwp_skip ?_) | ((refine pwp_cond_d (fun hcd => ?_) (fun hcd => ?_)) <;> (try simp only [hcP] at hcd) <;> (try exact cdT))) | (guard_target =~ rg _ _ _ _ _ _ _; first | (guard_target =~ rg _ _ _ [] _ _ _; first | (refine rg_end ?_)) | (refine rg_a rfl (h := ?_)) | (refine rg_x rfl (hy := rfl) (h := ?_)) | (refine rg_v rfl (h := ?_)) | (refine rg_s rfl ?_) | (refine rg_n rfl ?_)) | (guard_target =~ SOp _ _ _ _ _ _; first | (guard_target =~ SOp _ _ ⟨_, .store _ _ _, _, _, _, none⟩ _ _ _; first | (refine n_store rfl (hK := ?_))) | (guard_target =~ SOp _ _ ⟨_, .build _ _, _, _, _, none⟩ _ _ _; first | (refine n_build rfl (by first | exact bd32 | fail) (hK := ?_))) | (guard_target =~ SOp _ _ ⟨_, .alloc _, _, _, _, none⟩ _ _ _; first | (refine n_alloc rfl (by first | exact zv3 | exact zv4 | exact zv5 | exact zv9 | exact zv22 | exact zv28 | exact zv32 | fail) (hK := ?_))) | (guard_target =~ SOp _ _ ⟨_, .call ⟨.value (.func 48), _, _⟩, _, _, _, none⟩ _ _ _; first | (refine n_call (f := 48) rfl Tryd.call48 (h := AEq.pure' agT (rget18 _ _ _ (by omega) _ (by omega) (by omega)) (hq := ?_)))) | (guard_target =~ SOp _ _ ⟨_, .call ⟨.value (.func 46), _, _⟩, _, _, _, none⟩ _ _ _; first | (refine n_call (f := 46) rfl Tryd.call46 (h := AEq.pure' agT (rkind _ (by omega) (by omega)) (hq := ?_)))) | (guard_target =~ SOp _ _ ⟨_, .call ⟨.value (.func 47), _, _⟩, _, _, _, none⟩ _ _ _; first | (refine n_call (f := 47) rfl Tryd.call47 (h := AEq.pure' agT (rbegin _) (hq := ?_)))) | (guard_target =~ SOp _ _ ⟨_, .indexAddr _ _ _, _, _, _, none⟩ _ _ _; first | (refine n_index rfl (hK := ?_)))) | (guard_target =~ (_ ∨ _) ∧ _; first | ((refine end_q [] (by first | exact .inr rfl | exact .inl rfl | fail) (by rfl) (by rw [Tryd.results14]; exact Lf.resM3 (by (try simp (disch := omega) only [Lf.resOne, go_sem, seval, ↓reduceIte, hU]); rfl) (by (try simp (disch := omega) only [Lf.resOne, go_sem, seval, ↓reduceIte, hU]); rfl) (by (try simp (disch := omega) only [Lf.resOne, go_sem, seval, ↓reduceIte, hU]); rfl)) sT sT (ale_3 ?_ ?_ ?_) ?_) <;> (try (first | exact aleT | exact stq (by with_reducible rfl) | exact stq (by rfl) | exact stq (by simp (disch := omega) only [go_sem, seval, ↓reduceIte, hU]))))) | (refine hK _ _ ?_; clear hK K))
  have hda : List.drop a (List.take b.length b) = List.drop a b := by rw [List.take_length]
  have hdl : (List.drop a b).length = b.length - a := List.length_drop
  obtain ⟨⟨t1, s1, k1, e1⟩, hs1⟩ : ∃ p, slG (b.drop a) (b.length : Int) = p := ⟨_, rfl⟩
  have hk1 := slG_bd (b.drop a) (b.length : Int)
  rw [hs1, hdl] at hk1
  dsimp only at hk1
  obtain ⟨a1, rfl⟩ : ∃ j : Nat, k1 = j := ⟨k1.toNat, by omega⟩
  by_cases hn0 : pn = 0
  · subst hn0
    rw [rgK_n h5 h1] at htot
    by_cases he1 : e1 = 0
    rotate_left
    · rw [rgN_e hs1 he1] at htot
      obtain ⟨rfl, rfl, rfl, rfl, rfl, rfl, rfl, rfl, rfl⟩ : 0 = k ∧ 0 = i ∧ [] = nm ∧ false = ns ∧ [] = vl ∧ false = vs ∧ 0 = sz ∧ 0 = n ∧ e1 = e := by simpa only [rpNo, Rp.mk.injEq] using htot
      refine acall_body Tryd.func14 rfl Tryd.ntmps14 (by simp) (fun hsc => ?_); simp only [Lf.enter, Nat.reduceAdd]; clear hsc
      have hU := And.intro @hkm ( And.intro @hp ( And.intro @hda (@hs1)))
      repeat' (first | (guard_target =~ PWp _ _ _ _ _ _ _; first | (refine pwp_seq_k (fun K hK => ?_)) | (refine pwp_rg_then ?_) | (refine pwp_ret ?_) | (refine pwp_skip ?_) | ((refine pwp_cond_d (fun hcd => ?_) (fun hcd => ?_)) <;> (try simp only [hcP] at hcd) <;> (try exact cdT))) | (guard_target =~ rg _ _ _ _ _ _ _; first | (guard_target =~ rg _ _ _ [] _ _ _; first | (refine rg_end ?_)) | (refine rg_a rfl (h := ?_)) | (refine rg_x rfl (hy := rfl) (h := ?_)) | (refine rg_v rfl (h := ?_)) | (refine rg_s rfl ?_) | (refine rg_n rfl ?_)) | (guard_target =~ SOp _ _ _ _ _ _; first | (guard_target =~ SOp _ _ ⟨_, .store _ _ _, _, _, _, none⟩ _ _ _; first | (refine n_store rfl (hK := ?_))) | (guard_target =~ SOp _ _ ⟨_, .build _ _, _, _, _, none⟩ _ _ _; first | (refine n_build rfl (by first | exact bd32 | fail) (hK := ?_))) | (guard_target =~ SOp _ _ ⟨_, .alloc _, _, _, _, none⟩ _ _ _; first | (refine n_alloc rfl (by first | exact zv3 | exact zv4 | exact zv5 | exact zv9 | exact zv22 | exact zv28 | exact zv32 | fail) (hK := ?_))) | (guard_target =~ SOp _ _ ⟨_, .slice _ _ _ _ _, _, _, _, none⟩ _ _ _; first | (refine n_slice rfl (hg := (fun _ => (by simp only [go_sem, seval, ↓reduceIte, hU] <;> rfl))) (hK := ?_))) | (guard_target =~ SOp _ _ ⟨_, .call ⟨.value (.func 49), _, _⟩, _, _, _, none⟩ _ _ _; first | (refine n_call (f := 49) rfl Tryd.call49 (h := AEq.pure' agT (rsget _ _ _ (by omega) _) (hq := ?_)))) | (guard_target =~ SOp _ _ ⟨_, .call ⟨.value (.func 48), _, _⟩, _, _, _, none⟩ _ _ _; first | (refine n_call (f := 48) rfl Tryd.call48 (h := AEq.pure' agT (rget18 _ _ _ (by omega) _ (by omega) (by omega)) (hq := ?_)))) | (guard_target =~ SOp _ _ ⟨_, .call ⟨.value (.func 46), _, _⟩, _, _, _, none⟩ _ _ _; first | (refine n_call (f := 46) rfl Tryd.call46 (h := AEq.pure' agT (rkind _ (by omega) (by omega)) (hq := ?_)))) | (guard_target =~ SOp _ _ ⟨_, .call ⟨.value (.func 47), _, _⟩, _, _, _, none⟩ _ _ _; first | (refine n_call (f := 47) rfl Tryd.call47 (h := AEq.pure' agT (rbegin _) (hq := ?_)))) | (guard_target =~ SOp _ _ ⟨_, .indexAddr _ _ _, _, _, _, none⟩ _ _ _; first | (refine n_index rfl (hK := ?_)))) | (guard_target =~ (_ ∨ _) ∧ _; first | ((refine end_q [] (by first | exact .inr rfl | exact .inl rfl | fail) (by rfl) (by rw [Tryd.results14]; exact Lf.resM3 (by (try simp (disch := omega) only [Lf.resOne, go_sem, seval, ↓reduceIte, hU]); rfl) (by (try simp (disch := omega) only [Lf.resOne, go_sem, seval, ↓reduceIte, hU]); rfl) (by (try simp (disch := omega) only [Lf.resOne, go_sem, seval, ↓reduceIte, hU]); rfl)) sT sT (ale_3 ?_ ?_ ?_) ?_) <;> (try (first | exact aleT | exact stq (by with_reducible rfl) | exact stq (by rfl) | exact stq (by simp (disch := omega) only [go_sem, seval, ↓reduceIte, hU]))))) | (refine hK _ _ ?_; clear hK K))
    subst he1
    rw [rgN_ok hs1] at htot
    have hdl2 : (List.drop (a + a1) b).length = b.length - (a + a1) := List.length_drop
    obtain ⟨⟨t2, s2, k2, e2⟩, hs2⟩ : ∃ p, slG (b.drop (a + a1)) (b.length : Int) = p := ⟨_, rfl⟩
    have hk2 := slG_bd (b.drop (a + a1)) (b.length : Int)
    rw [hs2, hdl2] at hk2
    dsimp only at hk2
    have hda2 : List.drop ((a : Int) + (a1 : Int)).toNat b = List.drop (a + a1) b := by congr 1
    by_cases he2 : e2 = 0
    · subst he2
      rw [rgV_ok hs2] at htot
      obtain ⟨rfl, rfl, rfl, rfl, rfl, rfl, rfl, rfl, rfl⟩ : κ = k ∧ 0 = i ∧ t1 = nm ∧ s1 = ns ∧ t2 = vl ∧ s2 = vs ∧ 0 = sz ∧ ((a + a1 : Nat) : Int) + k2 = n ∧ 0 = e := by simpa only [rpNo, Rp.mk.injEq] using htot
      refine acall_body Tryd.func14 rfl Tryd.ntmps14 (by simp) (fun hsc => ?_); simp only [Lf.enter, Nat.reduceAdd]; clear hsc
      have hU := And.intro @hkm ( And.intro @hp ( And.intro @hda ( And.intro @hs1 ( And.intro @hda2 (@hs2)))))
      repeat' (first | (guard_target =~ PWp _ _ _ _ _ _ _; first | (refine pwp_seq_k (fun K hK => ?_)) | (refine pwp_rg_then ?_) | (refine pwp_ret ?_) | (refine pwp_skip ?_) | ((refine pwp_cond_d (fun hcd => ?_) (fun hcd => ?_)) <;> (try simp only [hcP] at hcd) <;> (try exact cdT))) | (guard_target =~ rg _ _ _ _ _ _ _; first | (guard_target =~ rg _ _ _ [] _ _ _; first | (refine rg_end ?_)) | (refine rg_a rfl (h := ?_)) | (refine rg_x rfl (hy := rfl) (h := ?_)) | (refine rg_v rfl (h := ?_)) | (refine rg_s rfl ?_) | (refine rg_n rfl ?_)) | (guard_target =~ SOp _ _ _ _ _ _; first | (guard_target =~ SOp _ _ ⟨_, .store _ _ _, _, _, _, none⟩ _ _ _; first | (refine n_store rfl (hK := ?_))) | (guard_target =~ SOp _ _ ⟨_, .build _ _, _, _, _, none⟩ _ _ _; first | (refine n_build rfl (by first | exact bd32 | fail) (hK := ?_))) | (guard_target =~ SOp _ _ ⟨_, .alloc _, _, _, _, none⟩ _ _ _; first | (refine n_alloc rfl (by first | exact zv3 | exact zv4 | exact zv5 | exact zv9 | exact zv22 | exact zv28 | exact zv32 | fail) (hK := ?_))) | (guard_target =~ SOp _ _ ⟨_, .slice _ _ _ _ _, _, _, _, none⟩ _ _ _; first | (refine n_slice rfl (hg := (fun _ => (by simp only [go_sem, seval, ↓reduceIte, hU] <;> rfl))) (hK := ?_))) | (guard_target =~ SOp _ _ ⟨_, .call ⟨.value (.func 49), _, _⟩, _, _, _, none⟩ _ _ _; first | (refine n_call (f := 49) rfl Tryd.call49 (h := AEq.pure' agT (rsget _ _ _ (by omega) _) (hq := ?_)))) | (guard_target =~ SOp _ _ ⟨_, .call ⟨.value (.func 48), _, _⟩, _, _, _, none⟩ _ _ _; first | (refine n_call (f := 48) rfl Tryd.call48 (h := AEq.pure' agT (rget18 _ _ _ (by omega) _ (by omega) (by omega)) (hq := ?_)))) | (guard_target =~ SOp _ _ ⟨_, .call ⟨.value (.func 46), _, _⟩, _, _, _, none⟩ _ _ _; first | (refine n_call (f := 46) rfl Tryd.call46 (h := AEq.pure' agT (rkind _ (by omega) (by omega)) (hq := ?_)))) | (guard_target =~ SOp _ _ ⟨_, .call ⟨.value (.func 47), _, _⟩, _, _, _, none⟩ _ _ _; first | (refine n_call (f := 47) rfl Tryd.call47 (h := AEq.pure' agT (rbegin _) (hq := ?_)))) | (guard_target =~ SOp _ _ ⟨_, .indexAddr _ _ _, _, _, _, none⟩ _ _ _; first | (refine n_index rfl (hK := ?_)))) | (guard_target =~ (_ ∨ _) ∧ _; first | ((refine end_q [] (by first | exact .inr rfl | exact .inl rfl | fail) (by rfl) (by rw [Tryd.results14]; exact Lf.resM3 (by (try simp (disch := omega) only [Lf.resOne, go_sem, seval, ↓reduceIte, hU]); rfl) (by (try simp (disch := omega) only [Lf.resOne, go_sem, seval, ↓reduceIte, hU]); rfl) (by (try simp (disch := omega) only [Lf.resOne, go_sem, seval, ↓reduceIte, hU]); rfl)) sT sT (ale_3 ?_ ?_ ?_) ?_) <;> (try (first | exact aleT | exact stq (by with_reducible rfl) | exact stq (by rfl) | exact stq (by simp (disch := omega) only [go_sem, seval, ↓reduceIte, hU]))))) | (refine hK _ _ ?_; clear hK K))
    · rw [rgV_e hs2 he2] at htot
      obtain ⟨rfl, rfl, rfl, rfl, rfl, rfl, rfl, rfl, rfl⟩ : 0 = k ∧ 0 = i ∧ [] = nm ∧ false = ns ∧ [] = vl ∧ false = vs ∧ 0 = sz ∧ 0 = n ∧ e2 = e := by simpa only [rpNo, Rp.mk.injEq] using htot
      refine acall_body Tryd.func14 rfl Tryd.ntmps14 (by simp) (fun hsc => ?_); simp only [Lf.enter, Nat.reduceAdd]; clear hsc
      have hU := And.intro @hkm ( And.intro @hp ( And.intro @hda ( And.intro @hs1 ( And.intro @hda2 (@hs2)))))
      repeat' (first | (guard_target =~ PWp _ _ _ _ _ _ _; first | (refine pwp_seq_k (fun K hK => ?_)) | (refine pwp_rg_then ?_) | (refine pwp_ret ?_) | (refine pwp_skip ?_) | ((refine pwp_cond_d (fun hcd => ?_) (fun hcd => ?_)) <;> (try simp only [hcP] at hcd) <;> (try exact cdT))) | (guard_target =~ rg _ _ _ _ _ _ _; first | (guard_target =~ rg _ _ _ [] _ _ _; first | (refine rg_end ?_)) | (refine rg_a rfl (h := ?_)) | (refine rg_x rfl (hy := rfl) (h := ?_)) | (refine rg_v rfl (h := ?_)) | (refine rg_s rfl ?_) | (refine rg_n rfl ?_)) | (guard_target =~ SOp _ _ _ _ _ _; first | (guard_target =~ SOp _ _ ⟨_, .store _ _ _, _, _, _, none⟩ _ _ _; first | (refine n_store rfl (hK := ?_))) | (guard_target =~ SOp _ _ ⟨_, .build _ _, _, _, _, none⟩ _ _ _; first | (refine n_build rfl (by first | exact bd32 | fail) (hK := ?_))) | (guard_target =~ SOp _ _ ⟨_, .alloc _, _, _, _, none⟩ _ _ _; first | (refine n_alloc rfl (by first | exact zv3 | exact zv4 | exact zv5 | exact zv9 | exact zv22 | exact zv28 | exact zv32 | fail) (hK := ?_))) | (guard_target =~ SOp _ _ ⟨_, .slice _ _ _ _ _, _, _, _, none⟩ _ _ _; first | (refine n_slice rfl (hg := (fun _ => (by simp only [go_sem, seval, ↓reduceIte, hU] <;> rfl))) (hK := ?_))) | (guard_target =~ SOp _ _ ⟨_, .call ⟨.value (.func 49), _, _⟩, _, _, _, none⟩ _ _ _; first | (refine n_call (f := 49) rfl Tryd.call49 (h := AEq.pure' agT (rsget _ _ _ (by omega) _) (hq := ?_)))) | (guard_target =~ SOp _ _ ⟨_, .call ⟨.value (.func 48), _, _⟩, _, _, _, none⟩ _ _ _; first | (refine n_call (f := 48) rfl Tryd.call48 (h := AEq.pure' agT (rget18 _ _ _ (by omega) _ (by omega) (by omega)) (hq := ?_)))) | (guard_target =~ SOp _ _ ⟨_, .call ⟨.value (.func 46), _, _⟩, _, _, _, none⟩ _ _ _; first | (refine n_call (f := 46) rfl Tryd.call46 (h := AEq.pure' agT (rkind _ (by omega) (by omega)) (hq := ?_)))) | (guard_target =~ SOp _ _ ⟨_, .call ⟨.value (.func 47), _, _⟩, _, _, _, none⟩ _ _ _; first | (refine n_call (f := 47) rfl Tryd.call47 (h := AEq.pure' agT (rbegin _) (hq := ?_)))) | (guard_target =~ SOp _ _ ⟨_, .indexAddr _ _ _, _, _, _, none⟩ _ _ _; first | (refine n_index rfl (hK := ?_)))) | (guard_target =~ (_ ∨ _) ∧ _; first | ((refine end_q [] (by first | exact .inr rfl | exact .inl rfl | fail) (by rfl) (by rw [Tryd.results14]; exact Lf.resM3 (by (try simp (disch := omega) only [Lf.resOne, go_sem, seval, ↓reduceIte, hU]); rfl) (by (try simp (disch := omega) only [Lf.resOne, go_sem, seval, ↓reduceIte, hU]); rfl) (by (try simp (disch := omega) only [Lf.resOne, go_sem, seval, ↓reduceIte, hU]); rfl)) sT sT (ale_3 ?_ ?_ ?_) ?_) <;> (try (first | exact aleT | exact stq (by with_reducible rfl) | exact stq (by rfl) | exact stq (by simp (disch := omega) only [go_sem, seval, ↓reduceIte, hU]))))) | (refine hK _ _ ?_; clear hK K))
  · rw [rgK_v h5 h1 hn0] at htot
    by_cases he1 : e1 = 0
    · subst he1
      rw [rgV_ok hs1] at htot
      obtain ⟨rfl, rfl, rfl, rfl, rfl, rfl, rfl, rfl, rfl⟩ : κ = k ∧ pn = i ∧ [] = nm ∧ false = ns ∧ t1 = vl ∧ s1 = vs ∧ 0 = sz ∧ (a : Int) + (a1 : Int) = n ∧ 0 = e := by simpa only [rpNo, Rp.mk.injEq] using htot
      refine acall_body Tryd.func14 rfl Tryd.ntmps14 (by simp) (fun hsc => ?_); simp only [Lf.enter, Nat.reduceAdd]; clear hsc
      have hU := And.intro @hkm ( And.intro @hp ( And.intro @hda (@hs1)))
      repeat' (first | (guard_target =~ PWp _ _ _ _ _ _ _; first | (refine pwp_seq_k (fun K hK => ?_)) | (refine pwp_rg_then ?_) | (refine pwp_ret ?_) | (refine pwp_skip ?_) | ((refine pwp_cond_d (fun hcd => ?_) (fun hcd => ?_)) <;> (try simp only [hcP] at hcd) <;> (try exact cdT))) | (guard_target =~ rg _ _ _ _ _ _ _; first | (guard_target =~ rg _ _ _ [] _ _ _; first | (refine rg_end ?_)) | (refine rg_a rfl (h := ?_)) | (refine rg_x rfl (hy := rfl) (h := ?_)) | (refine rg_v rfl (h := ?_)) | (refine rg_s rfl ?_) | (refine rg_n rfl ?_)) | (guard_target =~ SOp _ _ _ _ _ _; first | (guard_target =~ SOp _ _ ⟨_, .store _ _ _, _, _, _, none⟩ _ _ _; first | (refine n_store rfl (hK := ?_))) | (guard_target =~ SOp _ _ ⟨_, .build _ _, _, _, _, none⟩ _ _ _; first | (refine n_build rfl (by first | exact bd32 | fail) (hK := ?_))) | (guard_target =~ SOp _ _ ⟨_, .alloc _, _, _, _, none⟩ _ _ _; first | (refine n_alloc rfl (by first | exact zv3 | exact zv4 | exact zv5 | exact zv9 | exact zv22 | exact zv28 | exact zv32 | fail) (hK := ?_))) | (guard_target =~ SOp _ _ ⟨_, .slice _ _ _ _ _, _, _, _, none⟩ _ _ _; first | (refine n_slice rfl (hg := (fun _ => (by simp only [go_sem, seval, ↓reduceIte, hU] <;> rfl))) (hK := ?_))) | (guard_target =~ SOp _ _ ⟨_, .call ⟨.value (.func 49), _, _⟩, _, _, _, none⟩ _ _ _; first | (refine n_call (f := 49) rfl Tryd.call49 (h := AEq.pure' agT (rsget _ _ _ (by omega) _) (hq := ?_)))) | (guard_target =~ SOp _ _ ⟨_, .call ⟨.value (.func 48), _, _⟩, _, _, _, none⟩ _ _ _; first | (refine n_call (f := 48) rfl Tryd.call48 (h := AEq.pure' agT (rget18 _ _ _ (by omega) _ (by omega) (by omega)) (hq := ?_)))) | (guard_target =~ SOp _ _ ⟨_, .call ⟨.value (.func 46), _, _⟩, _, _, _, none⟩ _ _ _; first | (refine n_call (f := 46) rfl Tryd.call46 (h := AEq.pure' agT (rkind _ (by omega) (by omega)) (hq := ?_)))) | (guard_target =~ SOp _ _ ⟨_, .call ⟨.value (.func 47), _, _⟩, _, _, _, none⟩ _ _ _; first | (refine n_call (f := 47) rfl Tryd.call47 (h := AEq.pure' agT (rbegin _) (hq := ?_)))) | (guard_target =~ SOp _ _ ⟨_, .indexAddr _ _ _, _, _, _, none⟩ _ _ _; first | (refine n_index rfl (hK := ?_)))) | (guard_target =~ (_ ∨ _) ∧ _; first | ((refine end_q [] (by first | exact .inr rfl | exact .inl rfl | fail) (by rfl) (by rw [Tryd.results14]; exact Lf.resM3 (by (try simp (disch := omega) only [Lf.resOne, go_sem, seval, ↓reduceIte, hU]); rfl) (by (try simp (disch := omega) only [Lf.resOne, go_sem, seval, ↓reduceIte, hU]); rfl) (by (try simp (disch := omega) only [Lf.resOne, go_sem, seval, ↓reduceIte, hU]); rfl)) sT sT (ale_3 ?_ ?_ ?_) ?_) <;> (try (first | exact aleT | exact stq (by with_reducible rfl) | exact stq (by rfl) | exact stq (by simp (disch := omega) only [go_sem, seval, ↓reduceIte, hU]))))) | (refine hK _ _ ?_; clear hK K))
    · rw [rgV_e hs1 he1] at htot
      obtain ⟨rfl, rfl, rfl, rfl, rfl, rfl, rfl, rfl, rfl⟩ : 0 = k ∧ 0 = i ∧ [] = nm ∧ false = ns ∧ [] = vl ∧ false = vs ∧ 0 = sz ∧ 0 = n ∧ e1 = e := by simpa only [rpNo, Rp.mk.injEq] using htot
      refine acall_body Tryd.func14 rfl Tryd.ntmps14 (by simp) (fun hsc => ?_); simp only [Lf.enter, Nat.reduceAdd]; clear hsc
      have hU := And.intro @hkm ( And.intro @hp ( And.intro @hda (@hs1)))
      repeat' (first | (guard_target =~ PWp _ _ _ _ _ _ _; first | (refine pwp_seq_k (fun K hK => ?_)) | (refine pwp_rg_then ?_) | (refine pwp_ret ?_) | (refine pwp_skip ?_) | ((refine pwp_cond_d (fun hcd => ?_) (fun hcd => ?_)) <;> (try simp only [hcP] at hcd) <;> (try exact cdT))) | (guard_target =~ rg _ _ _ _ _ _ _; first | (guard_target =~ rg _ _ _ [] _ _ _; first | (refine rg_end ?_)) | (refine rg_a rfl (h := ?_)) | (refine rg_x rfl (hy := rfl) (h := ?_)) | (refine rg_v rfl (h := ?_)) | (refine rg_s rfl ?_) | (refine rg_n rfl ?_)) | (guard_target =~ SOp _ _ _ _ _ _; first | (guard_target =~ SOp _ _ ⟨_, .store _ _ _, _, _, _, none⟩ _ _ _; first | (refine n_store rfl (hK := ?_))) | (guard_target =~ SOp _ _ ⟨_, .build _ _, _, _, _, none⟩ _ _ _; first | (refine n_build rfl (by first | exact bd32 | fail) (hK := ?_))) | (guard_target =~ SOp _ _ ⟨_, .alloc _, _, _, _, none⟩ _ _ _; first | (refine n_alloc rfl (by first | exact zv3 | exact zv4 | exact zv5 | exact zv9 | exact zv22 | exact zv28 | exact zv32 | fail) (hK := ?_))) | (guard_target =~ SOp _ _ ⟨_, .slice _ _ _ _ _, _, _, _, none⟩ _ _ _; first | (refine n_slice rfl (hg := (fun _ => (by simp only [go_sem, seval, ↓reduceIte, hU] <;> rfl))) (hK := ?_))) | (guard_target =~ SOp _ _ ⟨_, .call ⟨.value (.func 49), _, _⟩, _, _, _, none⟩ _ _ _; first | (refine n_call (f := 49) rfl Tryd.call49 (h := AEq.pure' agT (rsget _ _ _ (by omega) _) (hq := ?_)))) | (guard_target =~ SOp _ _ ⟨_, .call ⟨.value (.func 48), _, _⟩, _, _, _, none⟩ _ _ _; first | (refine n_call (f := 48) rfl Tryd.call48 (h := AEq.pure' agT (rget18 _ _ _ (by omega) _ (by omega) (by omega)) (hq := ?_)))) | (guard_target =~ SOp _ _ ⟨_, .call ⟨.value (.func 46), _, _⟩, _, _, _, none⟩ _ _ _; first | (refine n_call (f := 46) rfl Tryd.call46 (h := AEq.pure' agT (rkind _ (by omega) (by omega)) (hq := ?_)))) | (guard_target =~ SOp _ _ ⟨_, .call ⟨.value (.func 47), _, _⟩, _, _, _, none⟩ _ _ _; first | (refine n_call (f := 47) rfl Tryd.call47 (h := AEq.pure' agT (rbegin _) (hq := ?_)))) | (guard_target =~ SOp _ _ ⟨_, .indexAddr _ _ _, _, _, _, none⟩ _ _ _; first | (refine n_index rfl (hK := ?_)))) | (guard_target =~ (_ ∨ _) ∧ _; first | ((refine end_q [] (by first | exact .inr rfl | exact .inl rfl | fail) (by rfl) (by rw [Tryd.results14]; exact Lf.resM3 (by (try simp (disch := omega) only [Lf.resOne, go_sem, seval, ↓reduceIte, hU]); rfl) (by (try simp (disch := omega) only [Lf.resOne, go_sem, seval, ↓reduceIte, hU]); rfl) (by (try simp (disch := omega) only [Lf.resOne, go_sem, seval, ↓reduceIte, hU]); rfl)) sT sT (ale_3 ?_ ?_ ?_) ?_) <;> (try (first | exact aleT | exact stq (by with_reducible rfl) | exact stq (by rfl) | exact stq (by simp (disch := omega) only [go_sem, seval, ↓reduceIte, hU]))))) | (refine hK _ _ ?_; clear hK K))
theorem rrget (f q : Bool) (b : List UInt8) (hb : b.length ≤ 100000) : AEq Tryd.prog 14 [.sl f q (b.map byteA)] [] (.tu [.ag [i64 (rgM b).k, i64 (rgM b).i, .lit (.string ⟨(rgM b).nm.toArray⟩), bl (rgM b).ns, .lit (.string ⟨(rgM b).vl.toArray⟩), bl (rgM b).vs, i64 (rgM b).sz], i64 (rgM b).n, i64 (rgM b).e]) [] := rrget0 f q b hb _ _ _ _ _ _ _ _ _ rfl
end Go.Proofs.YtohbfcmmpaikhaaDoor

set_option linter.unusedVariables false
set_option linter.unusedSimpArgs false
namespace Go.Proofs.YtohbfcmmpaikhaaDoor
open Go Go.Lf Go.Proofs
attribute [local irreducible] Lf.rg Lf.ro Lf.PWp Lf.SOp Lf.ACall Lf.Scoped Lf.dg Lf.dw
set_option maxRecDepth 20000
set_option maxHeartbeats 4000000
def at3 (a b c : Nat) : Nat → Nat
  | 0 => a
  | 1 => b
  | _ => c
def ze7 : List AV := [i64 0, i64 0, .lit (.string ⟨#[]⟩), bl false, .lit (.string ⟨#[]⟩), bl false, i64 0]
def bxT (κ : Int) (t1 : List UInt8) (s1 : Bool) (t2 : List UInt8) (s2 : Bool) : Nat → List AV
  | 0 => [i64 κ, i64 0, .lit (.string ⟨#[]⟩), bl false, .lit (.string ⟨#[]⟩), bl false, i64 0]
  | 1 => [i64 κ, i64 0, .lit (.string ⟨t1.toArray⟩), bl s1, .lit (.string ⟨#[]⟩), bl false, i64 0]
  | _ => [i64 κ, i64 0, .lit (.string ⟨t1.toArray⟩), bl s1, .lit (.string ⟨t2.toArray⟩), bl s2, i64 0]
def bxV (κ n : Int) (t1 : List UInt8) (s1 : Bool) : Nat → List AV
  | 0 => [i64 κ, i64 n, .lit (.string ⟨#[]⟩), bl false, .lit (.string ⟨#[]⟩), bl false, i64 0]
  | _ => [i64 κ, i64 n, .lit (.string ⟨#[]⟩), bl false, .lit (.string ⟨t1.toArray⟩), bl s1, i64 0]
attribute [local irreducible] pgG slG kindM frI biI txB
theorem pget22_0 (f q : Bool) (b : List UInt8) (hb : b.length ≤ 100000) (k i : Int) (nm : List UInt8) (ns : Bool) (vl : List UInt8) (vs : Bool) (sz n e : Int) (htot : rgM b = ⟨k, i, nm, ns, vl, vs, sz, n, e⟩) : AEq Tryd.prog 13 [.sl f q (b.map byteA)] [] (.tu [.ag [i64 k, i64 i, .lit (.string ⟨nm.toArray⟩), bl ns, .lit (.string ⟨vl.toArray⟩), bl vs, i64 sz], i64 n, i64 e]) [] := by
  by_cases hbe : b.length = 0
  · rw [rgM_none (List.getElem?_eq_none (by omega))] at htot
    obtain ⟨rfl, rfl, rfl, rfl, rfl, rfl, rfl, rfl, rfl⟩ : 0 = k ∧ 0 = i ∧ [] = nm ∧ false = ns ∧ [] = vl ∧ false = vs ∧ 0 = sz ∧ 0 = n ∧ 3 = e := by simpa only [rpNo, Rp.mk.injEq] using htot
    refine acall_body Tryd.func13 rfl Tryd.ntmps13 (by simp) (fun hsc => ?_); simp only [Lf.enter, Nat.reduceAdd]; clear hsc
    have hU := True.intro
    repeat' (first | (guard_target =~ PWp _ _ _ _ _ _ _; first | (refine pwp_seq_k (fun K hK => ?_)) | (refine pwp_rg_then ?_) | (refine pwp_ret ?_) | ((refine pwp_cond_d (fun hcd => ?_) (fun hcd => ?_)) <;> (try simp only [hcP] at hcd) <;> (try exact cdT))) | (guard_target =~ rg _ _ _ _ _ _ _; first | (guard_target =~ rg _ _ _ [] _ _ _; first | (refine rg_end ?_)) | (refine rg_a rfl (h := ?_)) | (refine rg_v rfl (h := ?_)) | (refine rg_s rfl ?_) | (refine rg_n rfl ?_)) | (guard_target =~ SOp _ _ _ _ _ _; first | (guard_target =~ SOp _ _ ⟨_, .store _ _ _, _, _, _, none⟩ _ _ _; first | (refine n_store rfl (hK := ?_))) | (guard_target =~ SOp _ _ ⟨_, .build _ _, _, _, _, none⟩ _ _ _; first | (refine n_build rfl (by first | exact bd25 | exact bd27 | exact bd93 | exact bd94 | fail) (hK := ?_))) | (guard_target =~ SOp _ _ ⟨_, .alloc _, _, _, _, none⟩ _ _ _; first | (refine n_alloc rfl (by first | exact zv3 | exact zv4 | exact zv5 | exact zv9 | exact zv22 | exact zv25 | exact zv27 | exact zv28 | exact zv93 | exact zv94 | exact zv95 | exact zv96 | fail) (hK := ?_)))) | (guard_target =~ (_ ∨ _) ∧ _; first | ((refine end_q [] (by first | exact .inr rfl | exact .inl rfl | fail) (by rfl) (by rw [Tryd.results13]; exact Lf.resM3 (by (try simp (disch := omega) only [Lf.resOne, go_sem, seval, ↓reduceIte, hU]); rfl) (by (try simp (disch := omega) only [Lf.resOne, go_sem, seval, ↓reduceIte, hU]); rfl) (by (try simp (disch := omega) only [Lf.resOne, go_sem, seval, ↓reduceIte, hU]); rfl)) sT sT (ale_3 ?_ ?_ ?_) ?_) <;> (try (first | exact aleT | exact stq (by with_reducible rfl) | exact stq (by rfl) | exact stq (by simp (disch := omega) only [go_sem, seval, ↓reduceIte, hU]))))) | (refine hK _ _ ?_; clear hK K))
  obtain ⟨x, hx⟩ := ex_at (l := b) (i := 0) (by omega)
  have hxl := x.toNat_lt
  obtain ⟨κ, hkm⟩ : ∃ c, kindM (x.toNat : Int) = c := ⟨_, rfl⟩
  have hκ := kindM_in (x := (x.toNat : Int)) (by omega)
  rw [hkm] at hκ
  have hcb := biI_bd hκ
  obtain ⟨tl, hfo⟩ := forms_at hκ
  have hbd := pgG_bd b (c := biI κ) (by omega) (by omega)
  obtain ⟨⟨pn, pk, pe⟩, hp⟩ : ∃ p, pgG b (biI κ) = p := ⟨_, rfl⟩
  rw [rgM_some hx hkm hp] at htot
  rw [hp] at hbd
  dsimp only at hbd
  obtain ⟨a, rfl⟩ : ∃ j : Nat, pk = j := ⟨pk.toNat, by omega⟩
  by_cases hpe : pe = 0
  rotate_left
  · rw [rgK_e hpe] at htot
    obtain ⟨rfl, rfl, rfl, rfl, rfl, rfl, rfl, rfl, rfl⟩ : 0 = k ∧ 0 = i ∧ [] = nm ∧ false = ns ∧ [] = vl ∧ false = vs ∧ 0 = sz ∧ 0 = n ∧ pe = e := by simpa only [rpNo, Rp.mk.injEq] using htot
    refine acall_body Tryd.func13 rfl Tryd.ntmps13 (by simp) (fun hsc => ?_); simp only [Lf.enter, Nat.reduceAdd]; clear hsc
    have hU := And.intro @hkm ( And.intro @hp (@hfo))
    repeat' (first | (guard_target =~ PWp _ _ _ _ _ _ _; first | (refine pwp_seq_k (fun K hK => ?_)) | (refine pwp_block ?_) | (refine pwp_rg_then ?_) | (refine pwp_ret ?_) | (refine pwp_skip ?_) | ((refine pwp_cond_d (fun hcd => ?_) (fun hcd => ?_)) <;> (try simp only [hcP] at hcd) <;> (try exact cdT))) | (guard_target =~ rg _ _ _ _ _ _ _; first | (guard_target =~ rg _ _ _ [] _ _ _; first | (refine rg_end ?_)) | (refine rg_a rfl (h := ?_)) | (refine rg_x rfl (hy := rfl) (h := ?_)) | (refine rg_v rfl (h := ?_)) | (refine rg_s rfl ?_) | (refine rg_n rfl ?_)) | (guard_target =~ SOp _ _ _ _ _ _; first | (guard_target =~ SOp _ _ ⟨_, .store _ _ _, _, _, _, none⟩ _ _ _; first | (refine n_store rfl (hK := ?_))) | (guard_target =~ SOp _ _ ⟨_, .build _ _, _, _, _, none⟩ _ _ _; first | (refine n_build rfl (by first | exact bd25 | exact bd27 | exact bd93 | exact bd94 | fail) (hK := ?_))) | (guard_target =~ SOp _ _ ⟨_, .alloc _, _, _, _, none⟩ _ _ _; first | (refine n_alloc rfl (by first | exact zv3 | exact zv4 | exact zv5 | exact zv9 | exact zv22 | exact zv25 | exact zv27 | exact zv28 | exact zv93 | exact zv94 | exact zv95 | exact zv96 | fail) (hK := ?_))) | (guard_target =~ SOp _ _ ⟨_, .indexAddr _ _ _, _, _, _, none⟩ _ _ _; first | (refine n_index rfl (hK := ?_)) | (refine n_index_arr rfl (hK := ?_))) | (guard_target =~ SOp _ _ ⟨_, .call ⟨.value (.func 43), _, _⟩, _, _, _, none⟩ _ _ _; first | (refine n_call (f := 43) rfl Tryd.call43 (h := AEq.pure' agT (pget _ _ _ (by omega) _ (by omega) (by omega)) (hq := ?_)))) | (guard_target =~ SOp _ _ ⟨_, .call ⟨.value (.func 42), _, _⟩, _, _, _, none⟩ _ _ _; first | (refine n_call (f := 42) rfl Tryd.call42 (h := AEq.pure' agT (pkind _ (by omega) (by omega)) (hq := ?_))))) | (guard_target =~ (_ ∨ _) ∧ _; first | ((refine end_q [] (by first | exact .inr rfl | exact .inl rfl | fail) (by rfl) (by rw [Tryd.results13]; exact Lf.resM3 (by (try simp (disch := omega) only [Lf.resOne, go_sem, seval, ↓reduceIte, hU]); rfl) (by (try simp (disch := omega) only [Lf.resOne, go_sem, seval, ↓reduceIte, hU]); rfl) (by (try simp (disch := omega) only [Lf.resOne, go_sem, seval, ↓reduceIte, hU]); rfl)) sT sT (ale_3 ?_ ?_ ?_) ?_) <;> (try (first | exact aleT | exact stq (by with_reducible rfl) | exact stq (by rfl) | exact stq (by simp (disch := omega) only [go_sem, seval, ↓reduceIte, hU]))))) | (refine hK _ _ ?_; clear hK K))
  subst hpe
  by_cases h5 : κ = 5
  · subst h5
    have hp5 := hp
    rw [biI_5] at hp5
    rw [rgK_5] at htot
    obtain ⟨rfl, rfl, rfl, rfl, rfl, rfl, rfl, rfl, rfl⟩ : 5 = k ∧ 0 = i ∧ [] = nm ∧ false = ns ∧ [] = vl ∧ false = vs ∧ pn = sz ∧ (a : Int) = n ∧ 0 = e := by simpa only [rpNo, Rp.mk.injEq] using htot
    refine acall_body Tryd.func13 rfl Tryd.ntmps13 (by simp) (fun hsc => ?_); simp only [Lf.enter, Nat.reduceAdd]; clear hsc
    have hU := And.intro @hkm ( And.intro @hp5 (@hfo))
    repeat' (first | (guard_target =~ PWp _ _ _ _ _ _ _; first | (refine pwp_seq_k (fun K hK => ?_)) | (refine pwp_block ?_) | (refine pwp_rg_then ?_) | (refine pwp_ret ?_) | (refine pwp_skip ?_) | ((refine pwp_cond_d (fun hcd => ?_) (fun hcd => ?_)) <;> (try simp only [hcP] at hcd) <;> (try exact cdT))) | (guard_target =~ rg _ _ _ _ _ _ _; first | (guard_target =~ rg _ _ _ [] _ _ _; first | (refine rg_end ?_)) | (refine rg_a rfl (h := ?_)) | (refine rg_x rfl (hy := rfl) (h := ?_)) | (refine rg_v rfl (h := ?_)) | (refine rg_s rfl ?_) | (refine rg_n rfl ?_)) | (guard_target =~ SOp _ _ _ _ _ _; first | (guard_target =~ SOp _ _ ⟨_, .store _ _ _, _, _, _, none⟩ _ _ _; first | (refine n_store rfl (hK := ?_))) | (guard_target =~ SOp _ _ ⟨_, .build _ _, _, _, _, none⟩ _ _ _; first | (refine n_build rfl (by first | exact bd25 | exact bd27 | exact bd93 | exact bd94 | fail) (hK := ?_))) | (guard_target =~ SOp _ _ ⟨_, .alloc _, _, _, _, none⟩ _ _ _; first | (refine n_alloc rfl (by first | exact zv3 | exact zv4 | exact zv5 | exact zv9 | exact zv22 | exact zv25 | exact zv27 | exact zv28 | exact zv93 | exact zv94 | exact zv95 | exact zv96 | fail) (hK := ?_))) | (guard_target =~ SOp _ _ ⟨_, .indexAddr _ _ _, _, _, _, none⟩ _ _ _; first | (refine n_index rfl (hK := ?_)) | (refine n_index_arr rfl (hK := ?_))) | (guard_target =~ SOp _ _ ⟨_, .call ⟨.value (.func 43), _, _⟩, _, _, _, none⟩ _ _ _; first | (refine n_call (f := 43) rfl Tryd.call43 (h := AEq.pure' agT (pget _ _ _ (by omega) _ (by omega) (by omega)) (hq := ?_)))) | (guard_target =~ SOp _ _ ⟨_, .call ⟨.value (.func 42), _, _⟩, _, _, _, none⟩ _ _ _; first | (refine n_call (f := 42) rfl Tryd.call42 (h := AEq.pure' agT (pkind _ (by omega) (by omega)) (hq := ?_))))) | (guard_target =~ (_ ∨ _) ∧ _; first | ((refine end_q [] (by first | exact .inr rfl | exact .inl rfl | fail) (by rfl) (by rw [Tryd.results13]; exact Lf.resM3 (by (try simp (disch := omega) only [Lf.resOne, go_sem, seval, ↓reduceIte, hU]); rfl) (by (try simp (disch := omega) only [Lf.resOne, go_sem, seval, ↓reduceIte, hU]); rfl) (by (try simp (disch := omega) only [Lf.resOne, go_sem, seval, ↓reduceIte, hU]); rfl)) sT sT (ale_3 ?_ ?_ ?_) ?_) <;> (try (first | exact aleT | exact stq (by with_reducible rfl) | exact stq (by rfl) | exact stq (by simp (disch := omega) only [go_sem, seval, ↓reduceIte, hU]))))) | (refine hK _ _ ?_; clear hK K))
  by_cases h1 : κ = 1
  · subst h1
    have hp5 := hp
    rw [biI_1] at hp5
    have htx := txB_1
    by_cases hn0 : pn = 0
    · subst hn0
      rw [rgK_10] at htot
      obtain ⟨rfl, rfl, rfl, rfl, rfl, rfl, rfl, rfl, rfl⟩ : 0 = k ∧ 0 = i ∧ [] = nm ∧ false = ns ∧ [] = vl ∧ false = vs ∧ 0 = sz ∧ 0 = n ∧ 12 = e := by simpa only [rpNo, Rp.mk.injEq] using htot
      refine acall_body Tryd.func13 rfl Tryd.ntmps13 (by simp) (fun hsc => ?_); simp only [Lf.enter, Nat.reduceAdd]; clear hsc
      have hU := And.intro @hkm ( And.intro @hp5 ( And.intro @hfo (@htx)))
      repeat' (first | (guard_target =~ PWp _ _ _ _ _ _ _; first | (refine pwp_seq_k (fun K hK => ?_)) | (refine pwp_block ?_) | (refine pwp_rg_then ?_) | (refine pwp_ret ?_) | (refine pwp_skip ?_) | ((refine pwp_cond_d (fun hcd => ?_) (fun hcd => ?_)) <;> (try simp only [hcP] at hcd) <;> (try exact cdT))) | (guard_target =~ rg _ _ _ _ _ _ _; first | (guard_target =~ rg _ _ _ (⟨_, .binOp _ _ _ _ _, _, _, _, some _⟩ :: _) _ _ _; first | (refine rg_gtp rfl (h := ?_))) | (guard_target =~ rg _ _ _ (⟨_, .move _, _, _, _, some _⟩ :: _) _ _ _; first | (refine rg_gtp rfl (h := ?_))) | (guard_target =~ rg _ _ _ [] _ _ _; first | (refine rg_end ?_)) | (refine rg_a rfl (h := ?_)) | (refine rg_x rfl (hy := rfl) (h := ?_)) | (refine rg_v rfl (h := ?_)) | (refine rg_s rfl ?_) | (refine rg_n rfl ?_)) | (guard_target =~ SOp _ _ _ _ _ _; first | (guard_target =~ SOp _ _ ⟨_, .store _ _ _, _, _, _, none⟩ _ _ _; first | (refine n_store rfl (hK := ?_))) | (guard_target =~ SOp _ _ ⟨_, .build _ _, _, _, _, none⟩ _ _ _; first | (refine n_build rfl (by first | exact bd25 | exact bd27 | exact bd93 | exact bd94 | fail) (hK := ?_))) | (guard_target =~ SOp _ _ ⟨_, .alloc _, _, _, _, none⟩ _ _ _; first | (refine n_alloc rfl (by first | exact zv3 | exact zv4 | exact zv5 | exact zv9 | exact zv22 | exact zv25 | exact zv27 | exact zv28 | exact zv93 | exact zv94 | exact zv95 | exact zv96 | fail) (hK := ?_))) | (guard_target =~ SOp _ _ ⟨_, .indexAddr _ _ _, _, _, _, none⟩ _ _ _; first | (refine n_index rfl (hK := ?_)) | (refine n_index_arr rfl (hK := ?_))) | (guard_target =~ SOp _ _ ⟨_, .call ⟨.value (.func 43), _, _⟩, _, _, _, none⟩ _ _ _; first | (refine n_call (f := 43) rfl Tryd.call43 (h := AEq.pure' agT (pget _ _ _ (by omega) _ (by omega) (by omega)) (hq := ?_)))) | (guard_target =~ SOp _ _ ⟨_, .call ⟨.value (.func 42), _, _⟩, _, _, _, none⟩ _ _ _; first | (refine n_call (f := 42) rfl Tryd.call42 (h := AEq.pure' agT (pkind _ (by omega) (by omega)) (hq := ?_))))) | (guard_target =~ (_ ∨ _) ∧ _; first | ((refine end_q [] (by first | exact .inr rfl | exact .inl rfl | fail) (by rfl) (by rw [Tryd.results13]; exact Lf.resM3 (by (try simp (disch := omega) only [Lf.resOne, go_sem, seval, ↓reduceIte, hU]); rfl) (by (try simp (disch := omega) only [Lf.resOne, go_sem, seval, ↓reduceIte, hU]); rfl) (by (try simp (disch := omega) only [Lf.resOne, go_sem, seval, ↓reduceIte, hU]); rfl)) sT sT (ale_3 ?_ ?_ ?_) ?_) <;> (try (first | exact aleT | exact stq (by with_reducible rfl) | exact stq (by rfl) | exact stq (by simp (disch := omega) only [go_sem, seval, ↓reduceIte, hU]))))) | (refine hK _ _ ?_; clear hK K))
    · rw [rgK_1 hn0] at htot
      obtain ⟨rfl, rfl, rfl, rfl, rfl, rfl, rfl, rfl, rfl⟩ : 1 = k ∧ pn = i ∧ [] = nm ∧ false = ns ∧ [] = vl ∧ false = vs ∧ 0 = sz ∧ (a : Int) = n ∧ 0 = e := by simpa only [rpNo, Rp.mk.injEq] using htot
      refine acall_body Tryd.func13 rfl Tryd.ntmps13 (by simp) (fun hsc => ?_); simp only [Lf.enter, Nat.reduceAdd]; clear hsc
      have hU := And.intro @hkm ( And.intro @hp5 ( And.intro @hfo (@htx)))
      repeat' (first | (guard_target =~ PWp _ _ _ _ _ _ _; first | (refine pwp_seq_k (fun K hK => ?_)) | (refine pwp_block ?_) | (refine pwp_rg_then ?_) | (refine pwp_ret ?_) | (refine pwp_skip ?_) | ((refine pwp_cond_d (fun hcd => ?_) (fun hcd => ?_)) <;> (try simp only [hcP] at hcd) <;> (try exact cdT))) | (guard_target =~ rg _ _ _ _ _ _ _; first | (guard_target =~ rg _ _ _ (⟨_, .binOp _ _ _ _ _, _, _, _, some _⟩ :: _) _ _ _; first | (refine rg_gtp rfl (h := ?_))) | (guard_target =~ rg _ _ _ (⟨_, .move _, _, _, _, some _⟩ :: _) _ _ _; first | (refine rg_gtp rfl (h := ?_))) | (guard_target =~ rg _ _ _ [] _ _ _; first | (refine rg_end ?_)) | (refine rg_a rfl (h := ?_)) | (refine rg_x rfl (hy := rfl) (h := ?_)) | (refine rg_v rfl (h := ?_)) | (refine rg_s rfl ?_) | (refine rg_n rfl ?_)) | (guard_target =~ SOp _ _ _ _ _ _; first | (guard_target =~ SOp _ _ ⟨_, .store _ _ _, _, _, _, none⟩ _ _ _; first | (refine n_store rfl (hK := ?_))) | (guard_target =~ SOp _ _ ⟨_, .build _ _, _, _, _, none⟩ _ _ _; first | (refine n_build rfl (by first | exact bd25 | exact bd27 | exact bd93 | exact bd94 | fail) (hK := ?_))) | (guard_target =~ SOp _ _ ⟨_, .alloc _, _, _, _, none⟩ _ _ _; first | (refine n_alloc rfl (by first | exact zv3 | exact zv4 | exact zv5 | exact zv9 | exact zv22 | exact zv25 | exact zv27 | exact zv28 | exact zv93 | exact zv94 | exact zv95 | exact zv96 | fail) (hK := ?_))) | (guard_target =~ SOp _ _ ⟨_, .indexAddr _ _ _, _, _, _, none⟩ _ _ _; first | (refine n_index rfl (hK := ?_)) | (refine n_index_arr rfl (hK := ?_))) | (guard_target =~ SOp _ _ ⟨_, .call ⟨.value (.func 43), _, _⟩, _, _, _, none⟩ _ _ _; first | (refine n_call (f := 43) rfl Tryd.call43 (h := AEq.pure' agT (pget _ _ _ (by omega) _ (by omega) (by omega)) (hq := ?_)))) | (guard_target =~ SOp _ _ ⟨_, .call ⟨.value (.func 42), _, _⟩, _, _, _, none⟩ _ _ _; first | (refine n_call (f := 42) rfl Tryd.call42 (h := AEq.pure' agT (pkind _ (by omega) (by omega)) (hq := ?_)))) | (guard_target =~ SOp _ _ ⟨_, .call ⟨.value (.func 44), _, _⟩, _, _, _, none⟩ _ _ _; first | (refine n_call (f := 44) rfl Tryd.call44 (h := AEq.pure' agT (ptexts _) (hq := ?_))))) | (guard_target =~ (_ ∨ _) ∧ _; first | ((refine end_q [] (by first | exact .inr rfl | exact .inl rfl | fail) (by rfl) (by rw [Tryd.results13]; exact Lf.resM3 (by (try simp (disch := omega) only [Lf.resOne, go_sem, seval, ↓reduceIte, hU]); rfl) (by (try simp (disch := omega) only [Lf.resOne, go_sem, seval, ↓reduceIte, hU]); rfl) (by (try simp (disch := omega) only [Lf.resOne, go_sem, seval, ↓reduceIte, hU]); rfl)) sT sT (ale_3 ?_ ?_ ?_) ?_) <;> (try (first | exact aleT | exact stq (by with_reducible rfl) | exact stq (by rfl) | exact stq (by simp (disch := omega) only [go_sem, seval, ↓reduceIte, hU]))))) | (refine hK _ _ ?_; clear hK K))
  have hda : List.drop a (List.take b.length b) = List.drop a b := by rw [List.take_length]
  have hdl : (List.drop a b).length = b.length - a := List.length_drop
  obtain ⟨⟨t1, s1, k1, e1⟩, hs1⟩ : ∃ p, slG (b.drop a) (b.length : Int) = p := ⟨_, rfl⟩
  have hk1 := slG_bd (b.drop a) (b.length : Int)
  rw [hs1, hdl] at hk1
  dsimp only at hk1
  obtain ⟨a1, rfl⟩ : ∃ j : Nat, k1 = j := ⟨k1.toNat, by omega⟩
  have htx := txB_m hκ h1 h5
  by_cases hn0 : pn = 0
  · subst hn0
    rw [rgK_n h5 h1] at htot
    have hdl2 : (List.drop (a + a1) b).length = b.length - (a + a1) := List.length_drop
    obtain ⟨⟨t2, s2, k2, e2⟩, hs2⟩ : ∃ p, slG (b.drop (a + a1)) (b.length : Int) = p := ⟨_, rfl⟩
    have hk2 := slG_bd (b.drop (a + a1)) (b.length : Int)
    rw [hs2, hdl2] at hk2
    dsimp only at hk2
    obtain ⟨a2, rfl⟩ : ∃ j : Nat, k2 = j := ⟨k2.toNat, by omega⟩
    refine acall_body Tryd.func13 rfl Tryd.ntmps13 (by simp) (fun hsc => ?_); simp only [Lf.enter, Nat.reduceAdd]; clear hsc
    have hU := And.intro @hkm ( And.intro @hp ( And.intro @hfo (@htx)))
    repeat' (first | (guard_target =~ PWp _ _ _ _ _ _ _; first | (refine pwp_seq_k (fun K hK => ?_)) | (refine pwp_block ?_) | (refine pwp_rg_then ?_) | (refine pwp_skip ?_) | ((refine pwp_cond_d (fun hcd => ?_) (fun hcd => ?_)) <;> (try simp only [hcP] at hcd) <;> (try exact cdT))) | (guard_target =~ rg _ _ _ _ _ _ _; first | (guard_target =~ rg _ _ _ (⟨_, .binOp _ _ _ _ _, _, _, _, some _⟩ :: _) _ _ _; first | (refine rg_gq rfl (h := ?_))) | (guard_target =~ rg _ _ _ (⟨_, .move _, _, _, _, some _⟩ :: _) _ _ _; first | (refine rg_gq rfl (h := ?_))) | (guard_target =~ rg _ _ _ [] _ _ _; first | (refine rg_end ?_)) | (refine rg_a rfl (h := ?_)) | (refine rg_x rfl (hy := rfl) (h := ?_)) | (refine rg_v rfl (h := ?_)) | (refine rg_s rfl ?_) | (refine rg_n rfl ?_)) | (guard_target =~ SOp _ _ _ _ _ _; first | (guard_target =~ SOp _ _ ⟨_, .store _ _ _, _, _, _, none⟩ _ _ _; first | (refine n_store rfl (hK := ?_))) | (guard_target =~ SOp _ _ ⟨_, .build _ _, _, _, _, none⟩ _ _ _; first | (refine n_build rfl (by first | exact bd25 | exact bd27 | exact bd93 | exact bd94 | fail) (hK := ?_))) | (guard_target =~ SOp _ _ ⟨_, .alloc _, _, _, _, none⟩ _ _ _; first | (refine n_alloc rfl (by first | exact zv3 | exact zv4 | exact zv5 | exact zv9 | exact zv22 | exact zv25 | exact zv27 | exact zv28 | exact zv93 | exact zv94 | exact zv95 | exact zv96 | fail) (hK := ?_))) | (guard_target =~ SOp _ _ ⟨_, .indexAddr _ _ _, _, _, _, none⟩ _ _ _; first | (refine n_index rfl (hK := ?_)) | (refine n_index_arr rfl (hK := ?_))) | (guard_target =~ SOp _ _ ⟨_, .call ⟨.value (.func 43), _, _⟩, _, _, _, none⟩ _ _ _; first | (refine n_call (f := 43) rfl Tryd.call43 (h := AEq.pure' agT (pget _ _ _ (by omega) _ (by omega) (by omega)) (hq := ?_)))) | (guard_target =~ SOp _ _ ⟨_, .call ⟨.value (.func 42), _, _⟩, _, _, _, none⟩ _ _ _; first | (refine n_call (f := 42) rfl Tryd.call42 (h := AEq.pure' agT (pkind _ (by omega) (by omega)) (hq := ?_)))) | (guard_target =~ SOp _ _ ⟨_, .call ⟨.value (.func 44), _, _⟩, _, _, _, none⟩ _ _ _; first | (refine n_call (f := 44) rfl Tryd.call44 (h := AEq.pure' agT (ptexts _) (hq := ?_)))) | (guard_target =~ SOp _ _ ⟨_, .buildSlice _ _ _, _, _, _, none⟩ _ _ _; first | (refine n_lit_r rfl sT (by first | exact eo3 | exact eo4 | exact eo5 | exact eo9 | exact eo22 | exact eo25 | exact eo27 | exact eo28 | exact eo93 | exact eo94 | exact eo95 | exact eo96 | fail) (by first | (simp (disch := omega) only [go_sem, seval, ↓reduceIte, hU]; done) | rfl) (by first | (simp (disch := omega) only [go_sem, seval, ↓reduceIte, hU]; done) | rfl) (by first | (simp (disch := omega) only [go_sem, seval, ↓reduceIte, hU]; done) | rfl) sT sT sT (by first | (simp (disch := omega) only [go_sem, seval, ↓reduceIte, hU]; done) | rfl) sT sT sT ?_))) | (refine hK _ _ ?_; clear hK K))
    refine pwp_loop_k [3, 4, 7, 11, 12, 13, 14, 74, 75, 76, 77, 78, 79, 80, 81, 82, 83, 84, 85, 86, 87, 88, 89, 90, 91, 92, 93, 94, 95, 96, 97, 98] (fun j : Nat => [(74, i64 (j : Int)), (7, i64 (at3 a (a + a1) (a + a1 + a2) j : Nat))]) (fun j => [.box ze7, .box (bxT κ t1 s1 t2 s2 j), .row 0 95 1 [[.ptr 1 2], [.ptr 1 4]]]) (fun j => j ≤ 2 ∧ (1 ≤ j → e1 = 0) ∧ (2 ≤ j → e2 = 0)) (fun j => 2 - j) 0 ⟨by omega, fun h => absurd h (by decide), fun h => absurd h (by decide)⟩ ?_ rfl ?_
    · dsimp only [at3]
      have hU := True.intro
      (refine ⟨⟨_, sT, ?_⟩, ⟨_, sT, ?_⟩, trivial⟩ <;> (try (first | exact aleT)))
    · rintro j ⟨hj, hj1, hj2⟩
      simp only [mask, List.map_cons, List.map_nil, List.cons_append, List.nil_append]
      obtain rfl | rfl | rfl : j = 0 ∨ j = 1 ∨ j = 2 := by omega
      · dsimp only [at3, bxT, ze7]
        by_cases he1 : e1 = 0
        · subst he1
          have hU := @hs1
          repeat' (first | (guard_target =~ PWp _ _ _ _ _ _ _; first | (refine pwp_seq_k (fun K hK => ?_)) | (refine pwp_block ?_) | (refine pwp_rg_then ?_) | (refine pwp_rg ?_) | (refine pwp_skip ?_) | ((refine pwp_cond_d (fun hcd => ?_) (fun hcd => ?_)) <;> (try simp only [hcP] at hcd) <;> (try exact cdT))) | (guard_target =~ rg _ _ _ _ _ _ _; first | (guard_target =~ rg _ _ _ [] _ _ _; first | (refine rg_end ?_)) | (refine rg_a rfl (h := ?_)) | (refine rg_x rfl (hy := rfl) (h := ?_)) | (refine rg_v rfl (h := ?_)) | (refine rg_s rfl ?_) | (refine rg_n rfl ?_)) | (guard_target =~ SOp _ _ _ _ _ _; first | (guard_target =~ SOp _ _ ⟨_, .store _ _ _, _, _, _, none⟩ _ _ _; first | (refine n_store rfl (hK := ?_))) | (guard_target =~ SOp _ _ ⟨_, .alloc _, _, _, _, none⟩ _ _ _; first | (refine n_alloc rfl (by first | exact zv3 | exact zv4 | exact zv5 | exact zv9 | exact zv22 | exact zv25 | exact zv27 | exact zv28 | exact zv93 | exact zv94 | exact zv95 | exact zv96 | fail) (hK := ?_))) | (guard_target =~ SOp _ _ ⟨_, .indexAddr _ _ _, _, _, _, none⟩ _ _ _; first | (refine n_index_row rfl (hK := ?_))) | (guard_target =~ SOp _ _ ⟨_, .slice _ _ _ _ _, _, _, _, none⟩ _ _ _; first | (refine n_slice rfl (hg := (fun _ => (by simp only [go_sem, seval, ↓reduceIte, hU] <;> rfl))) (hK := ?_))) | (guard_target =~ SOp _ _ ⟨_, .call ⟨.value (.func 45), _, _⟩, _, _, _, none⟩ _ _ _; first | (refine n_call (f := 45) rfl Tryd.call45 (h := AEq.pure' agT (sget _ _ _ (by omega) _) (hq := ?_))))) | (refine hK _ _ ?_; clear hK K))
          refine ⟨1, [0, 1, 2], ⟨by decide, fun _ => rfl, fun h => absurd h (by decide)⟩, by decide, rfl, ?_, (by repeat' (first | exact agr_refl | refine agr_cons (by rfl) ?_)), ?_⟩
          · try dsimp only [at3]
            have hU := True.intro
            (refine ⟨⟨_, sT, ?_⟩, ⟨_, sT, ?_⟩, trivial⟩ <;> (try (first | exact aleT)))
            all_goals first | exact ale_i (by omega) | trace_state
          · try dsimp only [bxT, ze7]
            first | rfl | trace_state
        · rw [rgN_e hs1 he1] at htot
          obtain ⟨rfl, rfl, rfl, rfl, rfl, rfl, rfl, rfl, rfl⟩ : 0 = k ∧ 0 = i ∧ [] = nm ∧ false = ns ∧ [] = vl ∧ false = vs ∧ 0 = sz ∧ 0 = n ∧ e1 = e := by simpa only [rpNo, Rp.mk.injEq] using htot
          have hU := @hs1
          repeat' (first | (guard_target =~ PWp _ _ _ _ _ _ _; first | (refine pwp_seq_k (fun K hK => ?_)) | (refine pwp_block ?_) | (refine pwp_rg_then ?_) | (refine pwp_ret ?_) | (refine pwp_skip ?_) | ((refine pwp_cond_d (fun hcd => ?_) (fun hcd => ?_)) <;> (try simp only [hcP] at hcd) <;> (try exact cdT))) | (guard_target =~ rg _ _ _ _ _ _ _; first | (guard_target =~ rg _ _ _ [] _ _ _; first | (refine rg_end ?_)) | (refine rg_a rfl (h := ?_)) | (refine rg_x rfl (hy := rfl) (h := ?_)) | (refine rg_v rfl (h := ?_)) | (refine rg_s rfl ?_) | (refine rg_n rfl ?_)) | (guard_target =~ SOp _ _ _ _ _ _; first | (guard_target =~ SOp _ _ ⟨_, .store _ _ _, _, _, _, none⟩ _ _ _; first | (refine n_store rfl (hK := ?_))) | (guard_target =~ SOp _ _ ⟨_, .build _ _, _, _, _, none⟩ _ _ _; first | (refine n_build rfl (by first | exact bd25 | exact bd27 | exact bd93 | exact bd94 | fail) (hK := ?_))) | (guard_target =~ SOp _ _ ⟨_, .alloc _, _, _, _, none⟩ _ _ _; first | (refine n_alloc rfl (by first | exact zv3 | exact zv4 | exact zv5 | exact zv9 | exact zv22 | exact zv25 | exact zv27 | exact zv28 | exact zv93 | exact zv94 | exact zv95 | exact zv96 | fail) (hK := ?_))) | (guard_target =~ SOp _ _ ⟨_, .indexAddr _ _ _, _, _, _, none⟩ _ _ _; first | (refine n_index_row rfl (hK := ?_))) | (guard_target =~ SOp _ _ ⟨_, .slice _ _ _ _ _, _, _, _, none⟩ _ _ _; first | (refine n_slice rfl (hg := (fun _ => (by simp only [go_sem, seval, ↓reduceIte, hU] <;> rfl))) (hK := ?_))) | (guard_target =~ SOp _ _ ⟨_, .call ⟨.value (.func 45), _, _⟩, _, _, _, none⟩ _ _ _; first | (refine n_call (f := 45) rfl Tryd.call45 (h := AEq.pure' agT (sget _ _ _ (by omega) _) (hq := ?_))))) | (guard_target =~ (_ ∨ _) ∧ _; first | ((refine end_q [] (by first | exact .inr rfl | exact .inl rfl | fail) (by rfl) (by rw [Tryd.results13]; exact Lf.resM3 (by (try simp (disch := omega) only [Lf.resOne, go_sem, seval, ↓reduceIte, hU]); rfl) (by (try simp (disch := omega) only [Lf.resOne, go_sem, seval, ↓reduceIte, hU]); rfl) (by (try simp (disch := omega) only [Lf.resOne, go_sem, seval, ↓reduceIte, hU]); rfl)) sT sT (ale_3 ?_ ?_ ?_) ?_) <;> (try (first | exact aleT | exact stq (by with_reducible rfl) | exact stq (by rfl) | exact stq (by simp (disch := omega) only [go_sem, seval, ↓reduceIte, hU]))))) | (refine hK _ _ ?_; clear hK K))
      · dsimp only [at3, bxT, ze7]
        obtain rfl := hj1 (Nat.le_refl _)
        rw [rgN_ok hs1] at htot
        by_cases he2 : e2 = 0
        · subst he2
          have hU := @hs2
          repeat' (first | (guard_target =~ PWp _ _ _ _ _ _ _; first | (refine pwp_seq_k (fun K hK => ?_)) | (refine pwp_block ?_) | (refine pwp_rg_then ?_) | (refine pwp_rg ?_) | (refine pwp_skip ?_) | ((refine pwp_cond_d (fun hcd => ?_) (fun hcd => ?_)) <;> (try simp only [hcP] at hcd) <;> (try exact cdT))) | (guard_target =~ rg _ _ _ _ _ _ _; first | (guard_target =~ rg _ _ _ [] _ _ _; first | (refine rg_end ?_)) | (refine rg_a rfl (h := ?_)) | (refine rg_x rfl (hy := rfl) (h := ?_)) | (refine rg_v rfl (h := ?_)) | (refine rg_s rfl ?_) | (refine rg_n rfl ?_)) | (guard_target =~ SOp _ _ _ _ _ _; first | (guard_target =~ SOp _ _ ⟨_, .store _ _ _, _, _, _, none⟩ _ _ _; first | (refine n_store rfl (hK := ?_))) | (guard_target =~ SOp _ _ ⟨_, .alloc _, _, _, _, none⟩ _ _ _; first | (refine n_alloc rfl (by first | exact zv3 | exact zv4 | exact zv5 | exact zv9 | exact zv22 | exact zv25 | exact zv27 | exact zv28 | exact zv93 | exact zv94 | exact zv95 | exact zv96 | fail) (hK := ?_))) | (guard_target =~ SOp _ _ ⟨_, .indexAddr _ _ _, _, _, _, none⟩ _ _ _; first | (refine n_index_row rfl (hK := ?_))) | (guard_target =~ SOp _ _ ⟨_, .slice _ _ _ _ _, _, _, _, none⟩ _ _ _; first | (refine n_slice rfl (hg := (fun _ => (by simp only [go_sem, seval, ↓reduceIte, hU] <;> rfl))) (hK := ?_))) | (guard_target =~ SOp _ _ ⟨_, .call ⟨.value (.func 45), _, _⟩, _, _, _, none⟩ _ _ _; first | (refine n_call (f := 45) rfl Tryd.call45 (h := AEq.pure' agT (sget _ _ _ (by omega) _) (hq := ?_))))) | (refine hK _ _ ?_; clear hK K))
          refine ⟨2, [0, 1, 2], ⟨by decide, fun _ => rfl, fun _ => rfl⟩, by decide, rfl, ?_, (by repeat' (first | exact agr_refl | refine agr_cons (by rfl) ?_)), ?_⟩
          · try dsimp only [at3]
            have hU := True.intro
            (refine ⟨⟨_, sT, ?_⟩, ⟨_, sT, ?_⟩, trivial⟩ <;> (try (first | exact aleT)))
            all_goals first | exact ale_i (by omega) | trace_state
          · try dsimp only [bxT, ze7]
            first | rfl | trace_state
        · rw [rgV_e hs2 he2] at htot
          obtain ⟨rfl, rfl, rfl, rfl, rfl, rfl, rfl, rfl, rfl⟩ : 0 = k ∧ 0 = i ∧ [] = nm ∧ false = ns ∧ [] = vl ∧ false = vs ∧ 0 = sz ∧ 0 = n ∧ e2 = e := by simpa only [rpNo, Rp.mk.injEq] using htot
          have hU := @hs2
          repeat' (first | (guard_target =~ PWp _ _ _ _ _ _ _; first | (refine pwp_seq_k (fun K hK => ?_)) | (refine pwp_block ?_) | (refine pwp_rg_then ?_) | (refine pwp_ret ?_) | (refine pwp_skip ?_) | ((refine pwp_cond_d (fun hcd => ?_) (fun hcd => ?_)) <;> (try simp only [hcP] at hcd) <;> (try exact cdT))) | (guard_target =~ rg _ _ _ _ _ _ _; first | (guard_target =~ rg _ _ _ [] _ _ _; first | (refine rg_end ?_)) | (refine rg_a rfl (h := ?_)) | (refine rg_x rfl (hy := rfl) (h := ?_)) | (refine rg_v rfl (h := ?_)) | (refine rg_s rfl ?_) | (refine rg_n rfl ?_)) | (guard_target =~ SOp _ _ _ _ _ _; first | (guard_target =~ SOp _ _ ⟨_, .store _ _ _, _, _, _, none⟩ _ _ _; first | (refine n_store rfl (hK := ?_))) | (guard_target =~ SOp _ _ ⟨_, .build _ _, _, _, _, none⟩ _ _ _; first | (refine n_build rfl (by first | exact bd25 | exact bd27 | exact bd93 | exact bd94 | fail) (hK := ?_))) | (guard_target =~ SOp _ _ ⟨_, .alloc _, _, _, _, none⟩ _ _ _; first | (refine n_alloc rfl (by first | exact zv3 | exact zv4 | exact zv5 | exact zv9 | exact zv22 | exact zv25 | exact zv27 | exact zv28 | exact zv93 | exact zv94 | exact zv95 | exact zv96 | fail) (hK := ?_))) | (guard_target =~ SOp _ _ ⟨_, .indexAddr _ _ _, _, _, _, none⟩ _ _ _; first | (refine n_index_row rfl (hK := ?_))) | (guard_target =~ SOp _ _ ⟨_, .slice _ _ _ _ _, _, _, _, none⟩ _ _ _; first | (refine n_slice rfl (hg := (fun _ => (by simp only [go_sem, seval, ↓reduceIte, hU] <;> rfl))) (hK := ?_))) | (guard_target =~ SOp _ _ ⟨_, .call ⟨.value (.func 45), _, _⟩, _, _, _, none⟩ _ _ _; first | (refine n_call (f := 45) rfl Tryd.call45 (h := AEq.pure' agT (sget _ _ _ (by omega) _) (hq := ?_))))) | (guard_target =~ (_ ∨ _) ∧ _; first | ((refine end_q [] (by first | exact .inr rfl | exact .inl rfl | fail) (by rfl) (by rw [Tryd.results13]; exact Lf.resM3 (by (try simp (disch := omega) only [Lf.resOne, go_sem, seval, ↓reduceIte, hU]); rfl) (by (try simp (disch := omega) only [Lf.resOne, go_sem, seval, ↓reduceIte, hU]); rfl) (by (try simp (disch := omega) only [Lf.resOne, go_sem, seval, ↓reduceIte, hU]); rfl)) sT sT (ale_3 ?_ ?_ ?_) ?_) <;> (try (first | exact aleT | exact stq (by with_reducible rfl) | exact stq (by rfl) | exact stq (by simp (disch := omega) only [go_sem, seval, ↓reduceIte, hU]))))) | (refine hK _ _ ?_; clear hK K))
      · dsimp only [at3, bxT, ze7]
        obtain rfl := hj1 (by decide)
        obtain rfl := hj2 (by decide)
        rw [rgN_ok hs1, rgV_ok hs2] at htot
        obtain ⟨rfl, rfl, rfl, rfl, rfl, rfl, rfl, rfl, rfl⟩ : κ = k ∧ 0 = i ∧ t1 = nm ∧ s1 = ns ∧ t2 = vl ∧ s2 = vs ∧ 0 = sz ∧ ((a + a1 : Nat) : Int) + (a2 : Int) = n ∧ 0 = e := by simpa only [rpNo, Rp.mk.injEq] using htot
        have hU := True.intro
        repeat' (first | (guard_target =~ PWp _ _ _ _ _ _ _; first | (refine pwp_seq_k (fun K hK => ?_)) | (refine pwp_rg_then ?_) | (refine pwp_ret ?_) | (refine pwp_exit ?_) | ((refine pwp_cond_d (fun hcd => ?_) (fun hcd => ?_)) <;> (try simp only [hcP] at hcd) <;> (try exact cdT))) | (guard_target =~ rg _ _ _ _ _ _ _; first | (guard_target =~ rg _ _ _ [] _ _ _; first | (refine rg_end ?_)) | (refine rg_a rfl (h := ?_)) | (refine rg_v rfl (h := ?_)) | (refine rg_n rfl ?_)) | (guard_target =~ SOp _ _ _ _ _ _; first | (guard_target =~ SOp _ _ ⟨_, .store _ _ _, _, _, _, none⟩ _ _ _; first | (refine n_store rfl (hK := ?_)))) | (guard_target =~ (_ ∨ _) ∧ _; first | ((refine end_q [] (by first | exact .inr rfl | exact .inl rfl | fail) (by rfl) (by rw [Tryd.results13]; exact Lf.resM3 (by (try simp (disch := omega) only [Lf.resOne, go_sem, seval, ↓reduceIte, hU]); rfl) (by (try simp (disch := omega) only [Lf.resOne, go_sem, seval, ↓reduceIte, hU]); rfl) (by (try simp (disch := omega) only [Lf.resOne, go_sem, seval, ↓reduceIte, hU]); rfl)) sT sT (ale_3 ?_ ?_ ?_) ?_) <;> (try (first | exact aleT | exact stq (by with_reducible rfl) | exact stq (by rfl) | exact stq (by simp (disch := omega) only [go_sem, seval, ↓reduceIte, hU]))))) | (refine hK _ _ ?_; clear hK K) | (apply_assumption (exfalso := false) (symm := false)))
  · rw [rgK_v h5 h1 hn0] at htot
    refine acall_body Tryd.func13 rfl Tryd.ntmps13 (by simp) (fun hsc => ?_); simp only [Lf.enter, Nat.reduceAdd]; clear hsc
    have hU := And.intro @hkm ( And.intro @hp ( And.intro @hfo (@htx)))
    repeat' (first | (guard_target =~ PWp _ _ _ _ _ _ _; first | (refine pwp_seq_k (fun K hK => ?_)) | (refine pwp_block ?_) | (refine pwp_rg_then ?_) | (refine pwp_skip ?_) | ((refine pwp_cond_d (fun hcd => ?_) (fun hcd => ?_)) <;> (try simp only [hcP] at hcd) <;> (try exact cdT))) | (guard_target =~ rg _ _ _ _ _ _ _; first | (guard_target =~ rg _ _ _ (⟨_, .binOp _ _ _ _ _, _, _, _, some _⟩ :: _) _ _ _; first | (refine rg_gq rfl (h := ?_))) | (guard_target =~ rg _ _ _ (⟨_, .move _, _, _, _, some _⟩ :: _) _ _ _; first | (refine rg_gq rfl (h := ?_))) | (guard_target =~ rg _ _ _ [] _ _ _; first | (refine rg_end ?_)) | (refine rg_a rfl (h := ?_)) | (refine rg_x rfl (hy := rfl) (h := ?_)) | (refine rg_v rfl (h := ?_)) | (refine rg_s rfl ?_) | (refine rg_n rfl ?_)) | (guard_target =~ SOp _ _ _ _ _ _; first | (guard_target =~ SOp _ _ ⟨_, .store _ _ _, _, _, _, none⟩ _ _ _; first | (refine n_store rfl (hK := ?_))) | (guard_target =~ SOp _ _ ⟨_, .build _ _, _, _, _, none⟩ _ _ _; first | (refine n_build rfl (by first | exact bd25 | exact bd27 | exact bd93 | exact bd94 | fail) (hK := ?_))) | (guard_target =~ SOp _ _ ⟨_, .alloc _, _, _, _, none⟩ _ _ _; first | (refine n_alloc rfl (by first | exact zv3 | exact zv4 | exact zv5 | exact zv9 | exact zv22 | exact zv25 | exact zv27 | exact zv28 | exact zv93 | exact zv94 | exact zv95 | exact zv96 | fail) (hK := ?_))) | (guard_target =~ SOp _ _ ⟨_, .indexAddr _ _ _, _, _, _, none⟩ _ _ _; first | (refine n_index rfl (hK := ?_)) | (refine n_index_arr rfl (hK := ?_))) | (guard_target =~ SOp _ _ ⟨_, .slice _ _ _ _ _, _, _, _, none⟩ _ _ _; first | (refine n_slice_row rfl (hK := ?_))) | (guard_target =~ SOp _ _ ⟨_, .call ⟨.value (.func 43), _, _⟩, _, _, _, none⟩ _ _ _; first | (refine n_call (f := 43) rfl Tryd.call43 (h := AEq.pure' agT (pget _ _ _ (by omega) _ (by omega) (by omega)) (hq := ?_)))) | (guard_target =~ SOp _ _ ⟨_, .call ⟨.value (.func 42), _, _⟩, _, _, _, none⟩ _ _ _; first | (refine n_call (f := 42) rfl Tryd.call42 (h := AEq.pure' agT (pkind _ (by omega) (by omega)) (hq := ?_)))) | (guard_target =~ SOp _ _ ⟨_, .call ⟨.value (.func 44), _, _⟩, _, _, _, none⟩ _ _ _; first | (refine n_call (f := 44) rfl Tryd.call44 (h := AEq.pure' agT (ptexts _) (hq := ?_)))) | (guard_target =~ SOp _ _ ⟨_, .buildSlice _ _ _, _, _, _, none⟩ _ _ _; first | (refine n_lit_r rfl sT (by first | exact eo3 | exact eo4 | exact eo5 | exact eo9 | exact eo22 | exact eo25 | exact eo27 | exact eo28 | exact eo93 | exact eo94 | exact eo95 | exact eo96 | fail) (by first | (simp (disch := omega) only [go_sem, seval, ↓reduceIte, hU]; done) | rfl) (by first | (simp (disch := omega) only [go_sem, seval, ↓reduceIte, hU]; done) | rfl) (by first | (simp (disch := omega) only [go_sem, seval, ↓reduceIte, hU]; done) | rfl) sT sT sT (by first | (simp (disch := omega) only [go_sem, seval, ↓reduceIte, hU]; done) | rfl) sT sT sT ?_))) | (refine hK _ _ ?_; clear hK K))
    refine pwp_loop_k [3, 4, 7, 11, 12, 13, 14, 74, 75, 76, 77, 78, 79, 80, 81, 82, 83, 84, 85, 86, 87, 88, 89, 90, 91, 92, 93, 94, 95, 96, 97, 98] (fun j : Nat => [(74, i64 (j : Int)), (7, i64 (at3 a (a + a1) 0 j : Nat))]) (fun j => [.box ze7, .box (bxV κ pn t1 s1 j), .row 0 95 1 [[.ptr 1 2], [.ptr 1 4]]]) (fun j => j ≤ 1 ∧ (1 ≤ j → e1 = 0)) (fun j => 1 - j) 0 ⟨by omega, fun h => absurd h (by decide)⟩ ?_ rfl ?_
    · dsimp only [at3]
      have hU := True.intro
      (refine ⟨⟨_, sT, ?_⟩, ⟨_, sT, ?_⟩, trivial⟩ <;> (try (first | exact aleT)))
    · rintro j ⟨hj, hj1⟩
      simp only [mask, List.map_cons, List.map_nil, List.cons_append, List.nil_append]
      obtain rfl | rfl : j = 0 ∨ j = 1 := by omega
      · dsimp only [at3, bxV, ze7]
        by_cases he1 : e1 = 0
        · subst he1
          have hU := @hs1
          repeat' (first | (guard_target =~ PWp _ _ _ _ _ _ _; first | (refine pwp_seq_k (fun K hK => ?_)) | (refine pwp_block ?_) | (refine pwp_rg_then ?_) | (refine pwp_rg ?_) | (refine pwp_skip ?_) | ((refine pwp_cond_d (fun hcd => ?_) (fun hcd => ?_)) <;> (try simp only [hcP] at hcd) <;> (try exact cdT))) | (guard_target =~ rg _ _ _ _ _ _ _; first | (guard_target =~ rg _ _ _ [] _ _ _; first | (refine rg_end ?_)) | (refine rg_a rfl (h := ?_)) | (refine rg_x rfl (hy := rfl) (h := ?_)) | (refine rg_v rfl (h := ?_)) | (refine rg_s rfl ?_) | (refine rg_n rfl ?_)) | (guard_target =~ SOp _ _ _ _ _ _; first | (guard_target =~ SOp _ _ ⟨_, .store _ _ _, _, _, _, none⟩ _ _ _; first | (refine n_store rfl (hK := ?_))) | (guard_target =~ SOp _ _ ⟨_, .alloc _, _, _, _, none⟩ _ _ _; first | (refine n_alloc rfl (by first | exact zv3 | exact zv4 | exact zv5 | exact zv9 | exact zv22 | exact zv25 | exact zv27 | exact zv28 | exact zv93 | exact zv94 | exact zv95 | exact zv96 | fail) (hK := ?_))) | (guard_target =~ SOp _ _ ⟨_, .indexAddr _ _ _, _, _, _, none⟩ _ _ _; first | (refine n_index_vw rfl (hK := ?_))) | (guard_target =~ SOp _ _ ⟨_, .slice _ _ _ _ _, _, _, _, none⟩ _ _ _; first | (refine n_slice rfl (hg := (fun _ => (by simp only [go_sem, seval, ↓reduceIte, hU] <;> rfl))) (hK := ?_))) | (guard_target =~ SOp _ _ ⟨_, .call ⟨.value (.func 45), _, _⟩, _, _, _, none⟩ _ _ _; first | (refine n_call (f := 45) rfl Tryd.call45 (h := AEq.pure' agT (sget _ _ _ (by omega) _) (hq := ?_))))) | (refine hK _ _ ?_; clear hK K))
          refine ⟨1, [0, 1, 2], ⟨by decide, fun _ => rfl⟩, by decide, rfl, ?_, (by repeat' (first | exact agr_refl | refine agr_cons (by rfl) ?_)), ?_⟩
          · try dsimp only [at3]
            have hU := True.intro
            (refine ⟨⟨_, sT, ?_⟩, ⟨_, sT, ?_⟩, trivial⟩ <;> (try (first | exact aleT)))
            all_goals first | exact ale_i (by omega) | trace_state
          · try dsimp only [bxV, ze7]
            first | rfl | trace_state
        · rw [rgV_e hs1 he1] at htot
          obtain ⟨rfl, rfl, rfl, rfl, rfl, rfl, rfl, rfl, rfl⟩ : 0 = k ∧ 0 = i ∧ [] = nm ∧ false = ns ∧ [] = vl ∧ false = vs ∧ 0 = sz ∧ 0 = n ∧ e1 = e := by simpa only [rpNo, Rp.mk.injEq] using htot
          have hU := @hs1
          repeat' (first | (guard_target =~ PWp _ _ _ _ _ _ _; first | (refine pwp_seq_k (fun K hK => ?_)) | (refine pwp_block ?_) | (refine pwp_rg_then ?_) | (refine pwp_ret ?_) | (refine pwp_skip ?_) | ((refine pwp_cond_d (fun hcd => ?_) (fun hcd => ?_)) <;> (try simp only [hcP] at hcd) <;> (try exact cdT))) | (guard_target =~ rg _ _ _ _ _ _ _; first | (guard_target =~ rg _ _ _ [] _ _ _; first | (refine rg_end ?_)) | (refine rg_a rfl (h := ?_)) | (refine rg_x rfl (hy := rfl) (h := ?_)) | (refine rg_v rfl (h := ?_)) | (refine rg_s rfl ?_) | (refine rg_n rfl ?_)) | (guard_target =~ SOp _ _ _ _ _ _; first | (guard_target =~ SOp _ _ ⟨_, .store _ _ _, _, _, _, none⟩ _ _ _; first | (refine n_store rfl (hK := ?_))) | (guard_target =~ SOp _ _ ⟨_, .build _ _, _, _, _, none⟩ _ _ _; first | (refine n_build rfl (by first | exact bd25 | exact bd27 | exact bd93 | exact bd94 | fail) (hK := ?_))) | (guard_target =~ SOp _ _ ⟨_, .alloc _, _, _, _, none⟩ _ _ _; first | (refine n_alloc rfl (by first | exact zv3 | exact zv4 | exact zv5 | exact zv9 | exact zv22 | exact zv25 | exact zv27 | exact zv28 | exact zv93 | exact zv94 | exact zv95 | exact zv96 | fail) (hK := ?_))) | (guard_target =~ SOp _ _ ⟨_, .indexAddr _ _ _, _, _, _, none⟩ _ _ _; first | (refine n_index_vw rfl (hK := ?_))) | (guard_target =~ SOp _ _ ⟨_, .slice _ _ _ _ _, _, _, _, none⟩ _ _ _; first | (refine n_slice rfl (hg := (fun _ => (by simp only [go_sem, seval, ↓reduceIte, hU] <;> rfl))) (hK := ?_))) | (guard_target =~ SOp _ _ ⟨_, .call ⟨.value (.func 45), _, _⟩, _, _, _, none⟩ _ _ _; first | (refine n_call (f := 45) rfl Tryd.call45 (h := AEq.pure' agT (sget _ _ _ (by omega) _) (hq := ?_))))) | (guard_target =~ (_ ∨ _) ∧ _; first | ((refine end_q [] (by first | exact .inr rfl | exact .inl rfl | fail) (by rfl) (by rw [Tryd.results13]; exact Lf.resM3 (by (try simp (disch := omega) only [Lf.resOne, go_sem, seval, ↓reduceIte, hU]); rfl) (by (try simp (disch := omega) only [Lf.resOne, go_sem, seval, ↓reduceIte, hU]); rfl) (by (try simp (disch := omega) only [Lf.resOne, go_sem, seval, ↓reduceIte, hU]); rfl)) sT sT (ale_3 ?_ ?_ ?_) ?_) <;> (try (first | exact aleT | exact stq (by with_reducible rfl) | exact stq (by rfl) | exact stq (by simp (disch := omega) only [go_sem, seval, ↓reduceIte, hU]))))) | (refine hK _ _ ?_; clear hK K))
      · dsimp only [at3, bxV, ze7]
        obtain rfl := hj1 (Nat.le_refl _)
        rw [rgV_ok hs1] at htot
        obtain ⟨rfl, rfl, rfl, rfl, rfl, rfl, rfl, rfl, rfl⟩ : κ = k ∧ pn = i ∧ [] = nm ∧ false = ns ∧ t1 = vl ∧ s1 = vs ∧ 0 = sz ∧ (a : Int) + (a1 : Int) = n ∧ 0 = e := by simpa only [rpNo, Rp.mk.injEq] using htot
        have hU := True.intro
        repeat' (first | (guard_target =~ PWp _ _ _ _ _ _ _; first | (refine pwp_seq_k (fun K hK => ?_)) | (refine pwp_rg_then ?_) | (refine pwp_ret ?_) | (refine pwp_exit ?_) | ((refine pwp_cond_d (fun hcd => ?_) (fun hcd => ?_)) <;> (try simp only [hcP] at hcd) <;> (try exact cdT))) | (guard_target =~ rg _ _ _ _ _ _ _; first | (guard_target =~ rg _ _ _ [] _ _ _; first | (refine rg_end ?_)) | (refine rg_a rfl (h := ?_)) | (refine rg_v rfl (h := ?_)) | (refine rg_n rfl ?_)) | (guard_target =~ SOp _ _ _ _ _ _; first | (guard_target =~ SOp _ _ ⟨_, .store _ _ _, _, _, _, none⟩ _ _ _; first | (refine n_store rfl (hK := ?_)))) | (guard_target =~ (_ ∨ _) ∧ _; first | ((refine end_q [] (by first | exact .inr rfl | exact .inl rfl | fail) (by rfl) (by rw [Tryd.results13]; exact Lf.resM3 (by (try simp (disch := omega) only [Lf.resOne, go_sem, seval, ↓reduceIte, hU]); rfl) (by (try simp (disch := omega) only [Lf.resOne, go_sem, seval, ↓reduceIte, hU]); rfl) (by (try simp (disch := omega) only [Lf.resOne, go_sem, seval, ↓reduceIte, hU]); rfl)) sT sT (ale_3 ?_ ?_ ?_) ?_) <;> (try (first | exact aleT | exact stq (by with_reducible rfl) | exact stq (by rfl) | exact stq (by simp (disch := omega) only [go_sem, seval, ↓reduceIte, hU]))))) | (refine hK _ _ ?_; clear hK K) | (apply_assumption (exfalso := false) (symm := false)))
theorem pget22 (f q : Bool) (b : List UInt8) (hb : b.length ≤ 100000) : AEq Tryd.prog 13 [.sl f q (b.map byteA)] [] (.tu [.ag [i64 (rgM b).k, i64 (rgM b).i, .lit (.string ⟨(rgM b).nm.toArray⟩), bl (rgM b).ns, .lit (.string ⟨(rgM b).vl.toArray⟩), bl (rgM b).vs, i64 (rgM b).sz], i64 (rgM b).n, i64 (rgM b).e]) [] := pget22_0 f q b hb _ _ _ _ _ _ _ _ _ rfl
end Go.Proofs.YtohbfcmmpaikhaaDoor

set_option linter.unusedVariables false
set_option linter.unusedSimpArgs false
namespace Go.Proofs.YtohbfcmmpaikhaaDoor
open Go Go.Lf Go.Proofs
attribute [local irreducible] Lf.rg Lf.ro Lf.PWp Lf.SOp Lf.ACall Lf.Scoped Lf.dg
set_option maxRecDepth 20000
set_option maxHeartbeats 4000000
theorem pgF_pos (b : List UInt8) : ∀ (k a : Nat) (n : Int), (pgF b k a n).2.2 = 0 → 1 ≤ (pgF b k a n).2.1
  | 0, a, n, h => by rw [pgF_0] at h; exact absurd h (by decide)
  | k + 1, a, n, h => by
    cases hx : b[a + 1]? with
    | none => rw [pgF_none hx] at h; exact absurd h (by decide)
    | some x =>
      by_cases h1 : (x.toNat : Int) < 128
      · by_cases h3 : 2147483647 < n + (x.toNat : Int) % 128 * pwI (7 * (a : Int))
        · rw [pgF_big hx h1 h3] at h; exact absurd h (by decide)
        · rw [pgF_end hx h1 h3]; dsimp only; omega
      · rw [pgF_more hx h1] at h ⊢
        exact pgF_pos b k (a + 1) _ h
theorem pgG_pos {b : List UInt8} {c : Int} (h : (pgG b c).2.2 = 0) : 1 ≤ (pgG b c).2.1 := by
  cases hx : b[0]? with
  | none => rw [pgG_none hx] at h; exact absurd h (by decide)
  | some x =>
    by_cases h1 : (x.toNat : Int) % pwI c < pwI c - 1
    · rw [pgG_lt hx h1]; dsimp only; omega
    · rw [pgG_ge hx h1] at h ⊢; exact pgF_pos b 5 0 _ h
theorem rg_right (b : List UInt8) : ((rgM b).e ≠ 0 ∧ (rgM b).n = 0) ∨ ((rgM b).e = 0 ∧ RP (rgM b).k (rgM b).i (rgM b).nm (rgM b).ns (rgM b).vl (rgM b).vs (rgM b).sz ∧ 0 < (rgM b).n ∧ (rgM b).n ≤ (b.length : Int)) := by
  by_cases hbe : b.length = 0
  · rw [rgM_none (List.getElem?_eq_none (by omega))]; exact .inl ⟨by decide, rfl⟩
  obtain ⟨x, hx⟩ := ex_at (l := b) (i := 0) (by omega)
  obtain ⟨κ, hkm⟩ : ∃ c, kindM (x.toNat : Int) = c := ⟨_, rfl⟩
  have hκ := kindM_in (x := (x.toNat : Int)) (by omega)
  rw [hkm] at hκ
  have hcb := biI_bd hκ
  have hbd := pgG_bd b (c := biI κ) (by omega) (by omega)
  have hps := pgG_pos (b := b) (c := biI κ)
  obtain ⟨⟨pn, pk, pe⟩, hp⟩ : ∃ p, pgG b (biI κ) = p := ⟨_, rfl⟩
  rw [rgM_some hx hkm hp]
  rw [hp] at hbd hps
  dsimp only at hbd hps
  obtain ⟨a, rfl⟩ : ∃ j : Nat, pk = j := ⟨pk.toNat, by omega⟩
  by_cases hpe : pe = 0
  rotate_left
  · rw [rgK_e hpe]; exact .inl ⟨hpe, rfl⟩
  subst hpe
  have hps := hps rfl
  by_cases h5 : κ = 5
  · subst h5
    rw [rgK_5]
    refine .inr ⟨rfl, ?_, by dsimp only; omega, by dsimp only; omega⟩
    dsimp only; unfold RP; simp; omega
  by_cases h1 : κ = 1
  · subst h1
    by_cases hn0 : pn = 0
    · subst hn0; rw [rgK_10]; exact .inl ⟨by decide, rfl⟩
    · rw [rgK_1 hn0]
      refine .inr ⟨rfl, ?_, by dsimp only; omega, by dsimp only; omega⟩
      dsimp only; unfold RP; simp; omega
  have hdl : (List.drop a b).length = b.length - a := List.length_drop
  obtain ⟨⟨t1, s1, k1, e1⟩, hs1⟩ : ∃ p, slG (b.drop a) (b.length : Int) = p := ⟨_, rfl⟩
  have hk1 := slG_bd (b.drop a) (b.length : Int)
  rw [hs1, hdl] at hk1
  dsimp only at hk1
  obtain ⟨a1, rfl⟩ : ∃ j : Nat, k1 = j := ⟨k1.toNat, by omega⟩
  by_cases hn0 : pn = 0
  · subst hn0
    rw [rgK_n h5 h1]
    by_cases he1 : e1 = 0
    rotate_left
    · rw [rgN_e hs1 he1]; exact .inl ⟨he1, rfl⟩
    subst he1
    rw [rgN_ok hs1]
    have hdl2 : (List.drop (a + a1) b).length = b.length - (a + a1) := List.length_drop
    obtain ⟨⟨t2, s2, k2, e2⟩, hs2⟩ : ∃ p, slG (b.drop (a + a1)) (b.length : Int) = p := ⟨_, rfl⟩
    have hk2 := slG_bd (b.drop (a + a1)) (b.length : Int)
    rw [hs2, hdl2] at hk2
    dsimp only at hk2
    by_cases he2 : e2 = 0
    · subst he2
      rw [rgV_ok hs2]
      refine .inr ⟨rfl, ?_, by dsimp only; omega, by dsimp only; omega⟩
      dsimp only; unfold RP; simp; omega
    · rw [rgV_e hs2 he2]; exact .inl ⟨he2, rfl⟩
  · rw [rgK_v h5 h1 hn0]
    by_cases he1 : e1 = 0
    · subst he1
      rw [rgV_ok hs1]
      refine .inr ⟨rfl, ?_, by dsimp only; omega, by dsimp only; omega⟩
      dsimp only; unfold RP; simp; omega
    · rw [rgV_e hs1 he1]; exact .inl ⟨he1, rfl⟩
end Go.Proofs.YtohbfcmmpaikhaaDoor

set_option linter.unusedVariables false
set_option linter.unusedSimpArgs false
namespace Go.Proofs.YtohbfcmmpaikhaaDoor
open Go Go.Lf Go.Proofs
attribute [local irreducible] Lf.rg Lf.ro Lf.PWp Lf.SOp Lf.ACall Lf.Scoped Lf.dg Lf.dw
set_option maxRecDepth 20000
set_option maxHeartbeats 4000000
def stTab : List (ByteArray × ByteArray) := [(⟨#[58, 97, 117, 116, 104, 111, 114, 105, 116, 121]⟩, ⟨#[]⟩), (⟨#[58, 109, 101, 116, 104, 111, 100]⟩, ⟨#[71, 69, 84]⟩), (⟨#[58, 109, 101, 116, 104, 111, 100]⟩, ⟨#[80, 79, 83, 84]⟩), (⟨#[58, 112, 97, 116, 104]⟩, ⟨#[47]⟩), (⟨#[58, 112, 97, 116, 104]⟩, ⟨#[47, 105, 110, 100, 101, 120, 46, 104, 116, 109, 108]⟩), (⟨#[58, 115, 99, 104, 101, 109, 101]⟩, ⟨#[104, 116, 116, 112]⟩), (⟨#[58, 115, 99, 104, 101, 109, 101]⟩, ⟨#[104, 116, 116, 112, 115]⟩), (⟨#[58, 115, 116, 97, 116, 117, 115]⟩, ⟨#[50, 48, 48]⟩), (⟨#[58, 115, 116, 97, 116, 117, 115]⟩, ⟨#[50, 48, 52]⟩), (⟨#[58, 115, 116, 97, 116, 117, 115]⟩, ⟨#[50, 48, 54]⟩), (⟨#[58, 115, 116, 97, 116, 117, 115]⟩, ⟨#[51, 48, 52]⟩), (⟨#[58, 115, 116, 97, 116, 117, 115]⟩, ⟨#[52, 48, 48]⟩), (⟨#[58, 115, 116, 97, 116, 117, 115]⟩, ⟨#[52, 48, 52]⟩), (⟨#[58, 115, 116, 97, 116, 117, 115]⟩, ⟨#[53, 48, 48]⟩), (⟨#[97, 99, 99, 101, 112, 116, 45, 99, 104, 97, 114, 115, 101, 116]⟩, ⟨#[]⟩), (⟨#[97, 99, 99, 101, 112, 116, 45, 101, 110, 99, 111, 100, 105, 110, 103]⟩, ⟨#[103, 122, 105, 112, 44, 32, 100, 101, 102, 108, 97, 116, 101]⟩), (⟨#[97, 99, 99, 101, 112, 116, 45, 108, 97, 110, 103, 117, 97, 103, 101]⟩, ⟨#[]⟩), (⟨#[97, 99, 99, 101, 112, 116, 45, 114, 97, 110, 103, 101, 115]⟩, ⟨#[]⟩), (⟨#[97, 99, 99, 101, 112, 116]⟩, ⟨#[]⟩), (⟨#[97, 99, 99, 101, 115, 115, 45, 99, 111, 110, 116, 114, 111, 108, 45, 97, 108, 108, 111, 119, 45, 111, 114, 105, 103, 105, 110]⟩, ⟨#[]⟩), (⟨#[97, 103, 101]⟩, ⟨#[]⟩), (⟨#[97, 108, 108, 111, 119]⟩, ⟨#[]⟩), (⟨#[97, 117, 116, 104, 111, 114, 105, 122, 97, 116, 105, 111, 110]⟩, ⟨#[]⟩), (⟨#[99, 97, 99, 104, 101, 45, 99, 111, 110, 116, 114, 111, 108]⟩, ⟨#[]⟩), (⟨#[99, 111, 110, 116, 101, 110, 116, 45, 100, 105, 115, 112, 111, 115, 105, 116, 105, 111, 110]⟩, ⟨#[]⟩), (⟨#[99, 111, 110, 116, 101, 110, 116, 45, 101, 110, 99, 111, 100, 105, 110, 103]⟩, ⟨#[]⟩), (⟨#[99, 111, 110, 116, 101, 110, 116, 45, 108, 97, 110, 103, 117, 97, 103, 101]⟩, ⟨#[]⟩), (⟨#[99, 111, 110, 116, 101, 110, 116, 45, 108, 101, 110, 103, 116, 104]⟩, ⟨#[]⟩), (⟨#[99, 111, 110, 116, 101, 110, 116, 45, 108, 111, 99, 97, 116, 105, 111, 110]⟩, ⟨#[]⟩), (⟨#[99, 111, 110, 116, 101, 110, 116, 45, 114, 97, 110, 103, 101]⟩, ⟨#[]⟩), (⟨#[99, 111, 110, 116, 101, 110, 116, 45, 116, 121, 112, 101]⟩, ⟨#[]⟩), (⟨#[99, 111, 111, 107, 105, 101]⟩, ⟨#[]⟩), (⟨#[100, 97, 116, 101]⟩, ⟨#[]⟩), (⟨#[101, 116, 97, 103]⟩, ⟨#[]⟩), (⟨#[101, 120, 112, 101, 99, 116]⟩, ⟨#[]⟩), (⟨#[101, 120, 112, 105, 114, 101, 115]⟩, ⟨#[]⟩), (⟨#[102, 114, 111, 109]⟩, ⟨#[]⟩), (⟨#[104, 111, 115, 116]⟩, ⟨#[]⟩), (⟨#[105, 102, 45, 109, 97, 116, 99, 104]⟩, ⟨#[]⟩), (⟨#[105, 102, 45, 109, 111, 100, 105, 102, 105, 101, 100, 45, 115, 105, 110, 99, 101]⟩, ⟨#[]⟩), (⟨#[105, 102, 45, 110, 111, 110, 101, 45, 109, 97, 116, 99, 104]⟩, ⟨#[]⟩), (⟨#[105, 102, 45, 114, 97, 110, 103, 101]⟩, ⟨#[]⟩), (⟨#[105, 102, 45, 117, 110, 109, 111, 100, 105, 102, 105, 101, 100, 45, 115, 105, 110, 99, 101]⟩, ⟨#[]⟩), (⟨#[108, 97, 115, 116, 45, 109, 111, 100, 105, 102, 105, 101, 100]⟩, ⟨#[]⟩), (⟨#[108, 105, 110, 107]⟩, ⟨#[]⟩), (⟨#[108, 111, 99, 97, 116, 105, 111, 110]⟩, ⟨#[]⟩), (⟨#[109, 97, 120, 45, 102, 111, 114, 119, 97, 114, 100, 115]⟩, ⟨#[]⟩), (⟨#[112, 114, 111, 120, 121, 45, 97, 117, 116, 104, 101, 110, 116, 105, 99, 97, 116, 101]⟩, ⟨#[]⟩), (⟨#[112, 114, 111, 120, 121, 45, 97, 117, 116, 104, 111, 114, 105, 122, 97, 116, 105, 111, 110]⟩, ⟨#[]⟩), (⟨#[114, 97, 110, 103, 101]⟩, ⟨#[]⟩), (⟨#[114, 101, 102, 101, 114, 101, 114]⟩, ⟨#[]⟩), (⟨#[114, 101, 102, 114, 101, 115, 104]⟩, ⟨#[]⟩), (⟨#[114, 101, 116, 114, 121, 45, 97, 102, 116, 101, 114]⟩, ⟨#[]⟩), (⟨#[115, 101, 114, 118, 101, 114]⟩, ⟨#[]⟩), (⟨#[115, 101, 116, 45, 99, 111, 111, 107, 105, 101]⟩, ⟨#[]⟩), (⟨#[115, 116, 114, 105, 99, 116, 45, 116, 114, 97, 110, 115, 112, 111, 114, 116, 45, 115, 101, 99, 117, 114, 105, 116, 121]⟩, ⟨#[]⟩), (⟨#[116, 114, 97, 110, 115, 102, 101, 114, 45, 101, 110, 99, 111, 100, 105, 110, 103]⟩, ⟨#[]⟩), (⟨#[117, 115, 101, 114, 45, 97, 103, 101, 110, 116]⟩, ⟨#[]⟩), (⟨#[118, 97, 114, 121]⟩, ⟨#[]⟩), (⟨#[118, 105, 97]⟩, ⟨#[]⟩), (⟨#[119, 119, 119, 45, 97, 117, 116, 104, 101, 110, 116, 105, 99, 97, 116, 101]⟩, ⟨#[]⟩)]
def stAt (i : Int) : ByteArray × ByteArray := if 1 ≤ i then stTab.getD (i.toNat - 1) (⟨#[]⟩, ⟨#[]⟩) else (⟨#[]⟩, ⟨#[]⟩)
@[go_sem] def fieldA (f : ByteArray × ByteArray) : List AV := [.lit (.string f.1), .lit (.string f.2), bl false]
abbrev comA : List AV := (stTab.take 14).flatMap fun p => [str p.1, str p.2]
abbrev plaA : List AV := (stTab.drop 14).map fun p => str p.1
theorem rn_com (f : Nat → Nat) : rnl f comA = comA := rfl
theorem rn_pla (f : Nat → Nat) : rnl f plaA = plaA := rfl
theorem stTab_len : stTab.length = 61 := rfl
theorem stAt_get (i : Int) (h : 1 ≤ i ∧ i ≤ 61) : ∃ h2 : i.toNat - 1 < stTab.length, stAt i = stTab[i.toNat - 1] := by
  refine ⟨by rw [stTab_len]; omega, ?_⟩
  unfold stAt
  rw [if_pos h.1, List.getD_eq_getElem?_getD, List.getElem?_eq_getElem (by rw [stTab_len]; omega)]; rfl
theorem stAt_out (i : Int) (h : i < 1 ∨ 61 < i) : stAt i = (⟨#[]⟩, ⟨#[]⟩) := by
  unfold stAt
  split
  · rw [List.getD_eq_getElem?_getD, List.getElem?_eq_none (by rw [stTab_len]; omega)]; rfl
  · rfl
theorem st_all (p : ByteArray × ByteArray → Bool) (h : stTab.all p = true) (i : Int) (hi : 1 ≤ i ∧ i ≤ 61) : p (stAt i) = true := by
  obtain ⟨h2, e⟩ := stAt_get i hi
  rw [e]
  exact List.all_eq_true.1 h _ (List.getElem_mem h2)
theorem st_all15 (p : ByteArray × ByteArray → Bool) (h : (stTab.drop 14).all p = true) (i : Int) (hi : 15 ≤ i ∧ i ≤ 61) : p (stAt i) = true := by
  obtain ⟨h2, e⟩ := stAt_get i ⟨by omega, hi.2⟩
  rw [e]
  refine List.all_eq_true.1 h _ ?_
  rw [List.mem_iff_getElem?]
  refine ⟨i.toNat - 15, ?_⟩
  rw [List.getElem?_drop, List.getElem?_eq_some_iff]
  refine ⟨by rw [stTab_len]; omega, ?_⟩
  congr 1
  omega
theorem st_name_ne (i : Int) (hi : 1 ≤ i ∧ i ≤ 61) : (stAt i).1 ≠ ⟨#[]⟩ := by
  have := st_all (fun f => decide (f.1 ≠ ⟨#[]⟩)) (by decide) i hi
  simpa using this
theorem st_gz (i : Int) (hi : 15 ≤ i ∧ i ≤ 61) (h : (stAt i).1 = ⟨#[97, 99, 99, 101, 112, 116, 45, 101, 110, 99, 111, 100, 105, 110, 103]⟩) : (stAt i).2 = ⟨#[103, 122, 105, 112, 44, 32, 100, 101, 102, 108, 97, 116, 101]⟩ := by
  have := st_all15 (fun f => decide (f.1 = ⟨#[97, 99, 99, 101, 112, 116, 45, 101, 110, 99, 111, 100, 105, 110, 103]⟩ → f.2 = ⟨#[103, 122, 105, 112, 44, 32, 100, 101, 102, 108, 97, 116, 101]⟩)) (by decide) i hi
  exact of_decide_eq_true this h
theorem st_ngz (i : Int) (hi : 15 ≤ i ∧ i ≤ 61) (h : ¬ (stAt i).1 = ⟨#[97, 99, 99, 101, 112, 116, 45, 101, 110, 99, 111, 100, 105, 110, 103]⟩) : (stAt i).2 = ⟨#[]⟩ := by
  have := st_all15 (fun f => decide (¬ f.1 = ⟨#[97, 99, 99, 101, 112, 116, 45, 101, 110, 99, 111, 100, 105, 110, 103]⟩ → f.2 = ⟨#[]⟩)) (by decide) i hi
  exact of_decide_eq_true this h
theorem aix_plain (i : Int) (h : 15 ≤ i ∧ i ≤ 61) : plaA[(i - 1 - 14).toNat * 1]? = some (str (stAt i).1) := by
  obtain ⟨h2, e⟩ := stAt_get i ⟨by omega, by omega⟩
  have hj : 14 + (i - 1 - 14).toNat * 1 = i.toNat - 1 := by omega
  rw [List.getElem?_map, List.getElem?_drop, hj, List.getElem?_eq_getElem h2, e]
  rfl
theorem aix_common (i : Int) (h : 1 ≤ i ∧ i ≤ 14) : List.take 2 (List.drop ((i - 1).toNat * 2) comA) = [str (stAt i).1, str (stAt i).2] := by
  have hi : i = 1 ∨ i = 2 ∨ i = 3 ∨ i = 4 ∨ i = 5 ∨ i = 6 ∨ i = 7 ∨ i = 8 ∨ i = 9 ∨ i = 10 ∨ i = 11 ∨ i = 12 ∨ i = 13 ∨ i = 14 := by omega
  rcases hi with rfl | rfl | rfl | rfl | rfl | rfl | rfl | rfl | rfl | rfl | rfl | rfl | rfl | rfl <;> rfl
@[go_sem] theorem sbeq (a b : ByteArray) : (a.toList == b.toList) = decide (a = b) := by
  obtain ⟨⟨a⟩⟩ := a; obtain ⟨⟨b⟩⟩ := b
  rw [ByteArray.toList_eq, ByteArray.toList_eq]
  by_cases h : a = b <;> simp [h]
theorem com_len : comA.length = 28 := rfl
theorem st_common : AEq Tryd.prog 129 [] [] (.ag comA) [] := by
  refine acall_body Tryd.func129 rfl Tryd.ntmps129 (by simp) (fun hsc => ?_); simp only [Lf.enter, Nat.reduceAdd]; clear hsc
  have hU := True.intro
  repeat' (first | (guard_target =~ PWp _ _ _ _ _ _ _; first | (refine pwp_seq_k (fun K hK => ?_)) | (refine pwp_rg_then ?_) | (refine pwp_ret ?_)) | (guard_target =~ rg _ _ _ _ _ _ _; first | (guard_target =~ rg _ _ _ [] _ _ _; first | (refine rg_end ?_)) | (refine rg_s rfl ?_) | (refine rg_n rfl ?_)) | (guard_target =~ SOp _ _ _ _ _ _; first | (guard_target =~ SOp _ _ ⟨_, .build _ _, _, _, _, none⟩ _ _ _; first | (refine n_build rfl (by first | exact bd176 | exact bd177 | fail) (hK := ?_))) | (guard_target =~ SOp _ _ ⟨_, .alloc _, _, _, _, none⟩ _ _ _; first | (refine n_alloc rfl (by first | exact zv9 | exact zv176 | exact zv177 | fail) (hK := ?_))) | (guard_target =~ SOp _ _ ⟨_, .store _ _ _, _, _, _, none⟩ _ _ _; first | (refine n_store rfl (hK := ?_)))) | (guard_target =~ (_ ∨ _) ∧ _; first | ((refine end_q [] (by first | exact .inr rfl | exact .inl rfl | fail) (by rfl) (by rw [Tryd.results129, Lf.resM1]; (try simp (disch := omega) only [Lf.resOne, go_sem, seval, ↓reduceIte, hU]); rfl) sT sT (ale_1 ?_) ?_) <;> (try (first | exact aleT | exact stq (by with_reducible rfl) | exact stq (by rfl) | exact stq (by simp (disch := omega) only [go_sem, seval, ↓reduceIte, hU]))))) | (refine hK _ _ ?_; clear hK K))
theorem st_plain : AEq Tryd.prog 130 [] [] (.ag plaA) [] := by
  refine acall_body Tryd.func130 rfl Tryd.ntmps130 (by simp) (fun hsc => ?_); simp only [Lf.enter, Nat.reduceAdd]; clear hsc
  have hU := True.intro
  repeat' (first | (guard_target =~ PWp _ _ _ _ _ _ _; first | (refine pwp_seq_k (fun K hK => ?_)) | (refine pwp_rg_then ?_) | (refine pwp_ret ?_)) | (guard_target =~ rg _ _ _ _ _ _ _; first | (guard_target =~ rg _ _ _ [] _ _ _; first | (refine rg_end ?_)) | (refine rg_s rfl ?_) | (refine rg_n rfl ?_)) | (guard_target =~ SOp _ _ _ _ _ _; first | (guard_target =~ SOp _ _ ⟨_, .alloc _, _, _, _, none⟩ _ _ _; first | (refine n_alloc rfl (by first | exact zv9 | exact zv179 | fail) (hK := ?_))) | (guard_target =~ SOp _ _ ⟨_, .build _ _, _, _, _, none⟩ _ _ _; first | (refine n_build rfl (by first | exact bd179 | fail) (hK := ?_))) | (guard_target =~ SOp _ _ ⟨_, .store _ _ _, _, _, _, none⟩ _ _ _; first | (refine n_store rfl (hK := ?_)))) | (guard_target =~ (_ ∨ _) ∧ _; first | ((refine end_q [] (by first | exact .inr rfl | exact .inl rfl | fail) (by rfl) (by rw [Tryd.results130, Lf.resM1]; (try simp (disch := omega) only [Lf.resOne, go_sem, seval, ↓reduceIte, hU]); rfl) sT sT (ale_1 ?_) ?_) <;> (try (first | exact aleT | exact stq (by with_reducible rfl) | exact stq (by rfl) | exact stq (by simp (disch := omega) only [go_sem, seval, ↓reduceIte, hU]))))) | (refine hK _ _ ?_; clear hK K))
theorem st_at_some (i : Int) (h : 1 ≤ i ∧ i ≤ 61) : AEq Tryd.prog 109 [i64 i] [] (.tu [.ag (fieldA (stAt i)), bl true]) [] := by
  refine acall_body Tryd.func109 rfl Tryd.ntmps109 (by simp) (fun hsc => ?_); simp only [Lf.enter, Nat.reduceAdd]; clear hsc
  repeat' (first | (guard_target =~ PWp _ _ _ _ _ _ _; first | (refine pwp_seq_k (fun K hK => ?_)) | (refine pwp_block ?_) | (refine pwp_rg_then ?_) | (refine pwp_ret ?_) | (refine pwp_skip ?_) | ((refine pwp_cond (by (try simp (disch := omega) only [go_sem, seval, ↓reduceIte, rn_com, rn_pla, aix_plain, aix_common, com_len, if_pos]) <;> rfl) (fun hcd => ?_) (fun hcd => ?_)) <;> (try simp only [hcP] at hcd) <;> (try exact cdT))) | (guard_target =~ rg _ _ _ _ _ _ _; first | (guard_target =~ rg _ _ _ (⟨_, .move _, _, _, _, none⟩ :: _) _ _ _; first | (refine rg_v rfl (by (try simp (disch := omega) only [go_sem, seval, ↓reduceIte, rn_com, rn_pla, aix_plain, aix_common, com_len, if_pos]) <;> rfl) ?_)) | (guard_target =~ rg _ _ _ (⟨_, .binOp _ _ _ _ _, _, _, _, none⟩ :: _) _ _ _; first | (refine rg_v rfl (by (try simp (disch := omega) only [go_sem, seval, ↓reduceIte, rn_com, rn_pla, aix_plain, aix_common, com_len, if_pos]) <;> rfl) ?_) | (refine rg_s rfl ?_) | (refine rg_n rfl ?_)) | (guard_target =~ rg _ _ _ (⟨_, .assign _, _, _, _, none⟩ :: _) _ _ _; first | (refine rg_a rfl (by (try simp (disch := omega) only [go_sem, seval, ↓reduceIte, rn_com, rn_pla, aix_plain, aix_common, com_len, if_pos]) <;> rfl) ?_)) | (guard_target =~ rg _ _ _ (⟨_, .load _ _, _, _, _, none⟩ :: _) _ _ _; first | (refine rg_v rfl (by (try simp (disch := omega) only [go_sem, seval, ↓reduceIte, rn_com, rn_pla, aix_plain, aix_common, com_len, if_pos]) <;> rfl) ?_)) | (guard_target =~ rg _ _ _ (⟨_, .fieldAddr _ _ _, _, _, _, none⟩ :: _) _ _ _; first | (refine rg_v rfl (by (try simp (disch := omega) only [go_sem, seval, ↓reduceIte, rn_com, rn_pla, aix_plain, aix_common, com_len, if_pos]) <;> rfl) ?_)) | (guard_target =~ rg _ _ _ (⟨_, .index _ _ _, _, _, _, none⟩ :: _) _ _ _; first | (refine rg_v rfl (by (try simp (disch := omega) only [go_sem, seval, ↓reduceIte, rn_com, rn_pla, aix_plain, aix_common, com_len, if_pos]) <;> rfl) ?_)) | (guard_target =~ rg _ _ _ (⟨_, .move _, _, _, _, some _⟩ :: _) _ _ _; first | (refine rg_gq rfl (by simp only [go_sem, seval, ↓reduceIte, rn_com, rn_pla, aix_plain, aix_common, com_len, if_pos] <;> rfl) (by first | (simp only [go_sem, seval, ↓reduceIte, rn_com, rn_pla, aix_plain, aix_common, com_len, if_pos]; done) | (simp only [go_sem, seval, ↓reduceIte, rn_com, rn_pla, aix_plain, aix_common, com_len, if_pos]; rfl) | rfl) (by (try simp (disch := omega) only [go_sem, seval, ↓reduceIte, rn_com, rn_pla, aix_plain, aix_common, com_len, if_pos]) <;> rfl) ?_)) | (guard_target =~ rg _ _ _ (⟨_, .pick _ _ _, _, _, _, none⟩ :: _) _ _ _; first | (refine rg_v rfl (by (try simp (disch := omega) only [go_sem, seval, ↓reduceIte, rn_com, rn_pla, aix_plain, aix_common, com_len, if_pos]) <;> rfl) ?_)) | (guard_target =~ rg _ _ _ (⟨_, .binOp _ _ _ _ _, _, _, _, some _⟩ :: _) _ _ _; first | (refine rg_gq rfl (by simp only [go_sem, seval, ↓reduceIte, rn_com, rn_pla, aix_plain, aix_common, com_len, if_pos] <;> rfl) (by first | (simp only [go_sem, seval, ↓reduceIte, rn_com, rn_pla, aix_plain, aix_common, com_len, if_pos]; done) | (simp only [go_sem, seval, ↓reduceIte, rn_com, rn_pla, aix_plain, aix_common, com_len, if_pos]; rfl) | rfl) (by (try simp (disch := omega) only [go_sem, seval, ↓reduceIte, rn_com, rn_pla, aix_plain, aix_common, com_len, if_pos]) <;> rfl) ?_)) | (guard_target =~ rg _ _ _ [] _ _ _; first | (refine rg_end ?_)) | (refine rg_s rfl ?_) | (refine rg_n rfl ?_)) | (guard_target =~ SOp _ _ _ _ _ _; first | (guard_target =~ SOp _ _ ⟨_, .store _ _ _, _, _, _, none⟩ _ _ _; first | (refine n_store rfl (by (try simp (disch := omega) only [go_sem, seval, ↓reduceIte, rn_com, rn_pla, aix_plain, aix_common, com_len, if_pos]) <;> rfl) (by (try simp (disch := omega) only [go_sem, seval, ↓reduceIte, rn_com, rn_pla, aix_plain, aix_common, com_len, if_pos]) <;> rfl) (by first | (simp (disch := omega) only [go_sem, seval, ↓reduceIte, rn_com, rn_pla, aix_plain, aix_common, com_len, if_pos]; done) | rfl) (by (try simp (disch := omega) only [go_sem, seval, ↓reduceIte, rn_com, rn_pla, aix_plain, aix_common, com_len, if_pos]) <;> rfl) (by (try simp (disch := omega) only [go_sem, seval, ↓reduceIte, rn_com, rn_pla, aix_plain, aix_common, com_len, if_pos]) <;> rfl) (by first | (simp (disch := omega) only [go_sem, seval, ↓reduceIte, rn_com, rn_pla, aix_plain, aix_common, com_len, if_pos]; done) | rfl) (by first | (simp (disch := omega) only [go_sem, seval, ↓reduceIte, rn_com, rn_pla, aix_plain, aix_common, com_len, if_pos]; done) | rfl) (by first | (simp (disch := omega) only [go_sem, seval, ↓reduceIte, rn_com, rn_pla, aix_plain, aix_common, com_len, if_pos]; done) | rfl) (by (try simp (disch := omega) only [go_sem, seval, ↓reduceIte, rn_com, rn_pla, aix_plain, aix_common, com_len, if_pos]) <;> rfl) (by (try simp (disch := omega) only [go_sem, seval, ↓reduceIte, rn_com, rn_pla, aix_plain, aix_common, com_len, if_pos]) <;> rfl) ?_)) | (guard_target =~ SOp _ _ ⟨_, .alloc _, _, _, _, none⟩ _ _ _; first | (refine n_alloc rfl (by first | exact zv3 | exact zv4 | exact zv9 | exact zv67 | exact zv176 | exact zv177 | exact zv179 | fail) (by first | (simp (disch := omega) only [go_sem, seval, ↓reduceIte, rn_com, rn_pla, aix_plain, aix_common, com_len, if_pos]; done) | rfl) (by (try simp (disch := omega) only [go_sem, seval, ↓reduceIte, rn_com, rn_pla, aix_plain, aix_common, com_len, if_pos]) <;> rfl) (by (try simp (disch := omega) only [go_sem, seval, ↓reduceIte, rn_com, rn_pla, aix_plain, aix_common, com_len, if_pos]) <;> rfl) (by (try simp (disch := omega) only [go_sem, seval, ↓reduceIte, rn_com, rn_pla, aix_plain, aix_common, com_len, if_pos]) <;> rfl) ?_)) | (guard_target =~ SOp _ _ ⟨_, .call ⟨.value (.func 129), _, _⟩, _, _, _, none⟩ _ _ _; first | (refine n_call (f := 129) rfl Tryd.call129 (by (try simp (disch := omega) only [go_sem, seval, ↓reduceIte, rn_com, rn_pla, aix_plain, aix_common, com_len, if_pos]) <;> rfl) (AEq.pure' agT st_common (by first | (simp (disch := omega) only [go_sem, seval, ↓reduceIte, rn_com, rn_pla, aix_plain, aix_common, com_len, if_pos]; done) | rfl) (by (try simp (disch := omega) only [go_sem, seval, ↓reduceIte, rn_com, rn_pla, aix_plain, aix_common, com_len, if_pos]) <;> rfl) ?_))) | (guard_target =~ SOp _ _ ⟨_, .build _ _, _, _, _, none⟩ _ _ _; first | (refine n_build rfl (by first | exact bd67 | exact bd176 | exact bd177 | exact bd179 | fail) (by (try simp (disch := omega) only [go_sem, seval, ↓reduceIte, rn_com, rn_pla, aix_plain, aix_common, com_len, if_pos]) <;> rfl) (by (try simp (disch := omega) only [go_sem, seval, ↓reduceIte, rn_com, rn_pla, aix_plain, aix_common, com_len, if_pos]) <;> rfl) (by (try simp (disch := omega) only [go_sem, seval, ↓reduceIte, rn_com, rn_pla, aix_plain, aix_common, com_len, if_pos]) <;> rfl) (by first | (simp (disch := omega) only [go_sem, seval, ↓reduceIte, rn_com, rn_pla, aix_plain, aix_common, com_len, if_pos]; done) | rfl) ?_)) | (guard_target =~ SOp _ _ ⟨_, .indexAddr _ _ _, _, _, _, none⟩ _ _ _; first | (refine n_index_arr rfl (by (try simp (disch := omega) only [go_sem, seval, ↓reduceIte, rn_com, rn_pla, aix_plain, aix_common, com_len, if_pos]) <;> rfl) (by first | (simp (disch := omega) only [go_sem, seval, ↓reduceIte, rn_com, rn_pla, aix_plain, aix_common, com_len, if_pos]; done) | rfl) (by (try simp (disch := omega) only [go_sem, seval, ↓reduceIte, rn_com, rn_pla, aix_plain, aix_common, com_len, if_pos]) <;> rfl) (by first | (simp (disch := omega) only [go_sem, seval, ↓reduceIte, rn_com, rn_pla, aix_plain, aix_common, com_len, if_pos]; done) | rfl) (by (try simp (disch := omega) only [go_sem, seval, ↓reduceIte, rn_com, rn_pla, aix_plain, aix_common, com_len, if_pos]) <;> rfl) (by (try simp only [List.length_map, List.length_append, List.length_cons, List.length_nil, List.length_replicate, List.length_take, List.length_drop, List.length_set]); omega) (by (try simp (disch := omega) only [go_sem, seval, ↓reduceIte, rn_com, rn_pla, aix_plain, aix_common, com_len, if_pos]) <;> rfl) (by (try simp only [List.length_map, List.length_append, List.length_cons, List.length_nil, List.length_replicate, List.length_take, List.length_drop, List.length_set]); omega) (by (try simp (disch := omega) only [go_sem, seval, ↓reduceIte, rn_com, rn_pla, aix_plain, aix_common, com_len, if_pos]) <;> rfl) (by simp (disch := omega) only [aidx, go_sem, seval, ↓reduceIte, rn_com, rn_pla, aix_plain, aix_common, com_len, if_pos]; rfl) ?_)) | (guard_target =~ SOp _ _ ⟨_, .call ⟨.value (.func 130), _, _⟩, _, _, _, none⟩ _ _ _; first | (refine n_call (f := 130) rfl Tryd.call130 (by (try simp (disch := omega) only [go_sem, seval, ↓reduceIte, rn_com, rn_pla, aix_plain, aix_common, com_len, if_pos]) <;> rfl) (AEq.pure' agT st_plain (by first | (simp (disch := omega) only [go_sem, seval, ↓reduceIte, rn_com, rn_pla, aix_plain, aix_common, com_len, if_pos]; done) | rfl) (by (try simp (disch := omega) only [go_sem, seval, ↓reduceIte, rn_com, rn_pla, aix_plain, aix_common, com_len, if_pos]) <;> rfl) ?_)))) | (guard_target =~ (_ ∨ _) ∧ _; first | ((refine end_q [] (by first | exact .inr rfl | exact .inl rfl | fail) (by rfl) (by rw [Tryd.results109]; exact Lf.resM2 (by (try simp (disch := omega) only [Lf.resOne, go_sem, seval, ↓reduceIte, rn_com, rn_pla, aix_plain, aix_common, com_len, if_pos]); rfl) (by (try simp (disch := omega) only [Lf.resOne, go_sem, seval, ↓reduceIte, rn_com, rn_pla, aix_plain, aix_common, com_len, if_pos]); rfl)) (by (try simp (disch := omega) only [go_sem, seval, ↓reduceIte, rn_com, rn_pla, aix_plain, aix_common, com_len, if_pos]) <;> rfl) (by (try simp (disch := omega) only [go_sem, seval, ↓reduceIte, rn_com, rn_pla, aix_plain, aix_common, com_len, if_pos]) <;> rfl) (ale_2 ?_ ?_) ?_) <;> (try (first | exact aleT | exact stq (by with_reducible rfl) | exact stq (by rfl) | exact stq (by simp (disch := omega) only [go_sem, seval, ↓reduceIte, rn_com, rn_pla, aix_plain, aix_common, com_len, if_pos]))))) | (refine hK _ _ ?_; clear hK K))
  · exact ale_eq (by simp only [fieldA]; rw [st_gz i (by omega) hcd])
  · exact ale_eq (by simp only [fieldA]; rw [st_ngz i (by omega) hcd])
theorem st_at_none (i : Int) (h : i < 1 ∨ 61 < i) : AEq Tryd.prog 109 [i64 i] [] (.tu [.ag (fieldA (⟨#[]⟩, ⟨#[]⟩)), bl false]) [] := by
  refine acall_body Tryd.func109 rfl Tryd.ntmps109 (by simp) (fun hsc => ?_); simp only [Lf.enter, Nat.reduceAdd]; clear hsc
  repeat' (first | (guard_target =~ PWp _ _ _ _ _ _ _; first | (refine pwp_seq_k (fun K hK => ?_)) | (refine pwp_block ?_) | (refine pwp_rg_then ?_) | (refine pwp_ret ?_) | ((refine pwp_cond (by (try simp (disch := omega) only [go_sem, seval, ↓reduceIte, rn_com, rn_pla, aix_plain, aix_common, com_len, if_pos]) <;> rfl) (fun hcd => ?_) (fun hcd => ?_)) <;> (try simp only [hcP] at hcd) <;> (try exact cdT))) | (guard_target =~ rg _ _ _ _ _ _ _; first | (guard_target =~ rg _ _ _ (⟨_, .move _, _, _, _, none⟩ :: _) _ _ _; first | (refine rg_v rfl (by (try simp (disch := omega) only [go_sem, seval, ↓reduceIte, rn_com, rn_pla, aix_plain, aix_common, com_len, if_pos]) <;> rfl) ?_)) | (guard_target =~ rg _ _ _ (⟨_, .binOp _ _ _ _ _, _, _, _, none⟩ :: _) _ _ _; first | (refine rg_v rfl (by (try simp (disch := omega) only [go_sem, seval, ↓reduceIte, rn_com, rn_pla, aix_plain, aix_common, com_len, if_pos]) <;> rfl) ?_) | (refine rg_s rfl ?_) | (refine rg_n rfl ?_)) | (guard_target =~ rg _ _ _ (⟨_, .assign _, _, _, _, none⟩ :: _) _ _ _; first | (refine rg_a rfl (by (try simp (disch := omega) only [go_sem, seval, ↓reduceIte, rn_com, rn_pla, aix_plain, aix_common, com_len, if_pos]) <;> rfl) ?_)) | (guard_target =~ rg _ _ _ (⟨_, .load _ _, _, _, _, none⟩ :: _) _ _ _; first | (refine rg_v rfl (by (try simp (disch := omega) only [go_sem, seval, ↓reduceIte, rn_com, rn_pla, aix_plain, aix_common, com_len, if_pos]) <;> rfl) ?_)) | (guard_target =~ rg _ _ _ (⟨_, .fieldAddr _ _ _, _, _, _, none⟩ :: _) _ _ _; first | (refine rg_v rfl (by (try simp (disch := omega) only [go_sem, seval, ↓reduceIte, rn_com, rn_pla, aix_plain, aix_common, com_len, if_pos]) <;> rfl) ?_)) | (guard_target =~ rg _ _ _ (⟨_, .index _ _ _, _, _, _, none⟩ :: _) _ _ _; first | (refine rg_v rfl (by (try simp (disch := omega) only [go_sem, seval, ↓reduceIte, rn_com, rn_pla, aix_plain, aix_common, com_len, if_pos]) <;> rfl) ?_)) | (guard_target =~ rg _ _ _ (⟨_, .move _, _, _, _, some _⟩ :: _) _ _ _; first | (refine rg_gq rfl (by simp only [go_sem, seval, ↓reduceIte, rn_com, rn_pla, aix_plain, aix_common, com_len, if_pos] <;> rfl) (by first | (simp only [go_sem, seval, ↓reduceIte, rn_com, rn_pla, aix_plain, aix_common, com_len, if_pos]; done) | (simp only [go_sem, seval, ↓reduceIte, rn_com, rn_pla, aix_plain, aix_common, com_len, if_pos]; rfl) | rfl) (by (try simp (disch := omega) only [go_sem, seval, ↓reduceIte, rn_com, rn_pla, aix_plain, aix_common, com_len, if_pos]) <;> rfl) ?_)) | (guard_target =~ rg _ _ _ (⟨_, .pick _ _ _, _, _, _, none⟩ :: _) _ _ _; first | (refine rg_v rfl (by (try simp (disch := omega) only [go_sem, seval, ↓reduceIte, rn_com, rn_pla, aix_plain, aix_common, com_len, if_pos]) <;> rfl) ?_)) | (guard_target =~ rg _ _ _ (⟨_, .binOp _ _ _ _ _, _, _, _, some _⟩ :: _) _ _ _; first | (refine rg_gq rfl (by simp only [go_sem, seval, ↓reduceIte, rn_com, rn_pla, aix_plain, aix_common, com_len, if_pos] <;> rfl) (by first | (simp only [go_sem, seval, ↓reduceIte, rn_com, rn_pla, aix_plain, aix_common, com_len, if_pos]; done) | (simp only [go_sem, seval, ↓reduceIte, rn_com, rn_pla, aix_plain, aix_common, com_len, if_pos]; rfl) | rfl) (by (try simp (disch := omega) only [go_sem, seval, ↓reduceIte, rn_com, rn_pla, aix_plain, aix_common, com_len, if_pos]) <;> rfl) ?_)) | (guard_target =~ rg _ _ _ [] _ _ _; first | (refine rg_end ?_)) | (refine rg_s rfl ?_) | (refine rg_n rfl ?_)) | (guard_target =~ SOp _ _ _ _ _ _; first | (guard_target =~ SOp _ _ ⟨_, .store _ _ _, _, _, _, none⟩ _ _ _; first | (refine n_store rfl (by (try simp (disch := omega) only [go_sem, seval, ↓reduceIte, rn_com, rn_pla, aix_plain, aix_common, com_len, if_pos]) <;> rfl) (by (try simp (disch := omega) only [go_sem, seval, ↓reduceIte, rn_com, rn_pla, aix_plain, aix_common, com_len, if_pos]) <;> rfl) (by first | (simp (disch := omega) only [go_sem, seval, ↓reduceIte, rn_com, rn_pla, aix_plain, aix_common, com_len, if_pos]; done) | rfl) (by (try simp (disch := omega) only [go_sem, seval, ↓reduceIte, rn_com, rn_pla, aix_plain, aix_common, com_len, if_pos]) <;> rfl) (by (try simp (disch := omega) only [go_sem, seval, ↓reduceIte, rn_com, rn_pla, aix_plain, aix_common, com_len, if_pos]) <;> rfl) (by first | (simp (disch := omega) only [go_sem, seval, ↓reduceIte, rn_com, rn_pla, aix_plain, aix_common, com_len, if_pos]; done) | rfl) (by first | (simp (disch := omega) only [go_sem, seval, ↓reduceIte, rn_com, rn_pla, aix_plain, aix_common, com_len, if_pos]; done) | rfl) (by first | (simp (disch := omega) only [go_sem, seval, ↓reduceIte, rn_com, rn_pla, aix_plain, aix_common, com_len, if_pos]; done) | rfl) (by (try simp (disch := omega) only [go_sem, seval, ↓reduceIte, rn_com, rn_pla, aix_plain, aix_common, com_len, if_pos]) <;> rfl) (by (try simp (disch := omega) only [go_sem, seval, ↓reduceIte, rn_com, rn_pla, aix_plain, aix_common, com_len, if_pos]) <;> rfl) ?_)) | (guard_target =~ SOp _ _ ⟨_, .alloc _, _, _, _, none⟩ _ _ _; first | (refine n_alloc rfl (by first | exact zv3 | exact zv4 | exact zv9 | exact zv67 | exact zv176 | exact zv177 | exact zv179 | fail) (by first | (simp (disch := omega) only [go_sem, seval, ↓reduceIte, rn_com, rn_pla, aix_plain, aix_common, com_len, if_pos]; done) | rfl) (by (try simp (disch := omega) only [go_sem, seval, ↓reduceIte, rn_com, rn_pla, aix_plain, aix_common, com_len, if_pos]) <;> rfl) (by (try simp (disch := omega) only [go_sem, seval, ↓reduceIte, rn_com, rn_pla, aix_plain, aix_common, com_len, if_pos]) <;> rfl) (by (try simp (disch := omega) only [go_sem, seval, ↓reduceIte, rn_com, rn_pla, aix_plain, aix_common, com_len, if_pos]) <;> rfl) ?_)) | (guard_target =~ SOp _ _ ⟨_, .build _ _, _, _, _, none⟩ _ _ _; first | (refine n_build rfl (by first | exact bd67 | exact bd176 | exact bd177 | exact bd179 | fail) (by (try simp (disch := omega) only [go_sem, seval, ↓reduceIte, rn_com, rn_pla, aix_plain, aix_common, com_len, if_pos]) <;> rfl) (by (try simp (disch := omega) only [go_sem, seval, ↓reduceIte, rn_com, rn_pla, aix_plain, aix_common, com_len, if_pos]) <;> rfl) (by (try simp (disch := omega) only [go_sem, seval, ↓reduceIte, rn_com, rn_pla, aix_plain, aix_common, com_len, if_pos]) <;> rfl) (by first | (simp (disch := omega) only [go_sem, seval, ↓reduceIte, rn_com, rn_pla, aix_plain, aix_common, com_len, if_pos]; done) | rfl) ?_))) | (guard_target =~ (_ ∨ _) ∧ _; first | ((refine end_q [] (by first | exact .inr rfl | exact .inl rfl | fail) (by rfl) (by rw [Tryd.results109]; exact Lf.resM2 (by (try simp (disch := omega) only [Lf.resOne, go_sem, seval, ↓reduceIte, rn_com, rn_pla, aix_plain, aix_common, com_len, if_pos]); rfl) (by (try simp (disch := omega) only [Lf.resOne, go_sem, seval, ↓reduceIte, rn_com, rn_pla, aix_plain, aix_common, com_len, if_pos]); rfl)) (by (try simp (disch := omega) only [go_sem, seval, ↓reduceIte, rn_com, rn_pla, aix_plain, aix_common, com_len, if_pos]) <;> rfl) (by (try simp (disch := omega) only [go_sem, seval, ↓reduceIte, rn_com, rn_pla, aix_plain, aix_common, com_len, if_pos]) <;> rfl) (ale_2 ?_ ?_) ?_) <;> (try (first | exact aleT | exact stq (by with_reducible rfl) | exact stq (by rfl) | exact stq (by simp (disch := omega) only [go_sem, seval, ↓reduceIte, rn_com, rn_pla, aix_plain, aix_common, com_len, if_pos]))))) | (refine hK _ _ ?_; clear hK K))
end Go.Proofs.YtohbfcmmpaikhaaDoor

set_option linter.unusedVariables false
set_option linter.unusedSimpArgs false
namespace Go.Proofs.YtohbfcmmpaikhaaDoor
open Go Go.Lf Go.Proofs
attribute [local irreducible] Lf.rg Lf.ro Lf.PWp Lf.SOp Lf.ACall Lf.Scoped Lf.dg
set_option maxRecDepth 20000
set_option maxHeartbeats 4000000
def stHas : List Int := [2, 3, 4, 5, 6, 7, 8, 9, 10, 11, 12, 13, 14, 16]
theorem stAt_noval (i : Int) (h : ¬ i ∈ stHas) : (stAt i).2 = ⟨#[]⟩ := by
  by_cases hi : 1 ≤ i ∧ i ≤ 61
  · have key : ∀ k : Fin 61, ¬ ((k.val : Int) + 1) ∈ stHas → (stTab[k.val]'(by rw [stTab_len]; exact k.isLt)).2 = ⟨#[]⟩ := by decide
    obtain ⟨h2, e⟩ := stAt_get i hi
    rw [e]
    refine key ⟨i.toNat - 1, by omega⟩ ?_
    rw [show ((i.toNat - 1 : Nat) : Int) + 1 = i from by omega]
    exact h
  · rw [stAt_out i (by omega)]
def IsFirst (p : Int → Bool) (r lo hi : Int) : Prop := (r = 0 ∧ ∀ i, lo ≤ i → i ≤ hi → p i = false) ∨ (lo ≤ r ∧ r ≤ hi ∧ p r = true ∧ ∀ i, lo ≤ i → i < r → p i = false)
theorem rf_value (i : Int) : AEq Tryd.prog 113 [i64 i] [] (.lit (.string (stAt i).2)) [] := by
  refine acall_body Tryd.func113 rfl Tryd.ntmps113 (by simp) (fun hsc => ?_); simp only [Lf.enter, Nat.reduceAdd]; clear hsc
  have hU := True.intro
  repeat' (first | (guard_target =~ PWp _ _ _ _ _ _ _; first | (refine pwp_seq_k (fun K hK => ?_)) | (refine pwp_block ?_) | (refine pwp_rg_then ?_) | (refine pwp_ret ?_) | (refine pwp_skip ?_) | ((refine pwp_cond_d (fun hcd => ?_) (fun hcd => ?_)) <;> (try simp only [hcP] at hcd) <;> (try exact cdT))) | (guard_target =~ rg _ _ _ _ _ _ _; first | (guard_target =~ rg _ _ _ [] _ _ _; first | (refine rg_end ?_)) | (refine rg_a rfl (h := ?_)) | (refine rg_v rfl (h := ?_))) | (guard_target =~ (_ ∨ _) ∧ _; first | ((refine end_d [] (by rw [Tryd.results113, Lf.res1]) (ale_1 ?_) ?_) <;> (try (first | exact aleT | exact stq (by with_reducible rfl) | exact stq (by rfl) | exact stq (by simp (disch := omega) only [go_sem, seval, ↓reduceIte, hU]))))) | (refine hK _ _ ?_; clear hK K))
  all_goals (first | (subst hcd; exact ale_eq rfl) | exact ale_eq (by rw [stAt_noval i (by simp [stHas, *])]))
theorem rf_later (i : Int) (h : i < 1 ∨ 35 < i) : AEq Tryd.prog 131 [i64 i] [] (.lit (.string (stAt i).1)) [] := by
  refine acall_body Tryd.func131 rfl Tryd.ntmps131 (by simp) (fun hsc => ?_); simp only [Lf.enter, Nat.reduceAdd]; clear hsc
  have hU := True.intro
  repeat' (first | (guard_target =~ PWp _ _ _ _ _ _ _; first | (refine pwp_seq_k (fun K hK => ?_)) | (refine pwp_block ?_) | (refine pwp_rg_then ?_) | (refine pwp_ret ?_) | (refine pwp_skip ?_) | ((refine pwp_cond_d (fun hcd => ?_) (fun hcd => ?_)) <;> (try simp only [hcP] at hcd) <;> (try exact cdT))) | (guard_target =~ rg _ _ _ _ _ _ _; first | (guard_target =~ rg _ _ _ [] _ _ _; first | (refine rg_end ?_)) | (refine rg_a rfl (h := ?_)) | (refine rg_v rfl (h := ?_))) | (guard_target =~ (_ ∨ _) ∧ _; first | ((refine end_d [] (by rw [Tryd.results131, Lf.res1]) (ale_1 ?_) ?_) <;> (try (first | exact aleT | exact stq (by with_reducible rfl) | exact stq (by rfl) | exact stq (by simp (disch := omega) only [go_sem, seval, ↓reduceIte, hU]))))) | (refine hK _ _ ?_; clear hK K))
  all_goals (first | (subst hcd; exact ale_eq rfl) | exact ale_eq (by rw [stAt_out i (by omega)]))
theorem rf_name (i : Int) : AEq Tryd.prog 112 [i64 i] [] (.lit (.string (stAt i).1)) [] := by
  refine acall_body Tryd.func112 rfl Tryd.ntmps112 (by simp) (fun hsc => ?_); simp only [Lf.enter, Nat.reduceAdd]; clear hsc
  have hU := True.intro
  repeat' (first | (guard_target =~ PWp _ _ _ _ _ _ _; first | (refine pwp_seq_k (fun K hK => ?_)) | (refine pwp_block ?_) | (refine pwp_rg_then ?_) | (refine pwp_ret ?_) | (refine pwp_skip ?_) | ((refine pwp_cond_d (fun hcd => ?_) (fun hcd => ?_)) <;> (try simp only [hcP] at hcd) <;> (try exact cdT))) | (guard_target =~ rg _ _ _ _ _ _ _; first | (guard_target =~ rg _ _ _ [] _ _ _; first | (refine rg_end ?_)) | (refine rg_a rfl (h := ?_)) | (refine rg_v rfl (h := ?_)) | (refine rg_s rfl ?_)) | (guard_target =~ SOp _ _ _ _ _ _; first | (guard_target =~ SOp _ _ ⟨_, .call ⟨.value (.func 131), _, _⟩, _, _, _, none⟩ _ _ _; first | (refine n_call (f := 131) rfl Tryd.call131 (h := AEq.pure' (hc := rf_later _ (by omega)) (hq := ?_))))) | (guard_target =~ (_ ∨ _) ∧ _; first | ((refine end_d [] (by rw [Tryd.results112, Lf.res1]) (ale_1 ?_) ?_) <;> (try (first | exact aleT | exact stq (by with_reducible rfl) | exact stq (by rfl) | exact stq (by simp (disch := omega) only [go_sem, seval, ↓reduceIte, hU]))))) | (refine hK _ _ ?_; clear hK K))
  all_goals (first | (subst hcd; exact ale_eq rfl) | skip)
theorem rf_at_some (i : Int) (h : 1 ≤ i ∧ i ≤ 61) : AEq Tryd.prog 85 [i64 i] [] (.tu [.ag (fieldA (stAt i)), bl true]) [] := by
  have hn := st_name_ne i h
  refine acall_body Tryd.func85 rfl Tryd.ntmps85 (by simp) (fun hsc => ?_); simp only [Lf.enter, Nat.reduceAdd]; clear hsc
  have hU := True.intro
  repeat' (first | (guard_target =~ PWp _ _ _ _ _ _ _; first | (refine pwp_seq_k (fun K hK => ?_)) | (refine pwp_rg_then ?_) | (refine pwp_ret ?_) | (refine pwp_skip ?_) | ((refine pwp_cond_d (fun hcd => ?_) (fun hcd => ?_)) <;> (try simp only [hcP] at hcd) <;> (try exact cdT))) | (guard_target =~ rg _ _ _ _ _ _ _; first | (guard_target =~ rg _ _ _ [] _ _ _; first | (refine rg_end ?_)) | (refine rg_a rfl (h := ?_)) | (refine rg_v rfl (h := ?_)) | (refine rg_s rfl ?_) | (refine rg_n rfl ?_)) | (guard_target =~ SOp _ _ _ _ _ _; first | (guard_target =~ SOp _ _ ⟨_, .store _ _ _, _, _, _, none⟩ _ _ _; first | (refine n_store rfl (hK := ?_))) | (guard_target =~ SOp _ _ ⟨_, .call ⟨.value (.func 112), _, _⟩, _, _, _, none⟩ _ _ _; first | (refine n_call (f := 112) rfl Tryd.call112 (h := AEq.pure' (hc := rf_name _) (hq := ?_)))) | (guard_target =~ SOp _ _ ⟨_, .build _ _, _, _, _, none⟩ _ _ _; first | (refine n_build rfl (by first | exact bd67 | fail) (hK := ?_))) | (guard_target =~ SOp _ _ ⟨_, .alloc _, _, _, _, none⟩ _ _ _; first | (refine n_alloc rfl (by first | exact zv3 | exact zv4 | exact zv9 | exact zv67 | fail) (hK := ?_))) | (guard_target =~ SOp _ _ ⟨_, .call ⟨.value (.func 113), _, _⟩, _, _, _, none⟩ _ _ _; first | (refine n_call (f := 113) rfl Tryd.call113 (h := AEq.pure' (hc := rf_value _) (hq := ?_))))) | (guard_target =~ (_ ∨ _) ∧ _; first | ((refine end_q [] (by first | exact .inr rfl | exact .inl rfl | fail) (by rfl) (by rw [Tryd.results85]; exact Lf.resM2 (by (try simp (disch := omega) only [Lf.resOne, go_sem, seval, ↓reduceIte, hU]); rfl) (by (try simp (disch := omega) only [Lf.resOne, go_sem, seval, ↓reduceIte, hU]); rfl)) sT sT (ale_2 ?_ ?_) ?_) <;> (try (first | exact aleT | exact stq (by with_reducible rfl) | exact stq (by rfl) | exact stq (by simp (disch := omega) only [go_sem, seval, ↓reduceIte, hU]))))) | (refine hK _ _ ?_; clear hK K))
theorem IsFirst.not {p : Int → Bool} {r k : Int} (h : IsFirst p r 1 k) (hp : p (k + 1) = false) : IsFirst p r 1 (k + 1) := by
  rcases h with ⟨h, hn⟩ | ⟨h1, h2, h3, h4⟩
  · refine .inl ⟨h, fun i a b => ?_⟩
    by_cases hi : i = k + 1
    · rw [hi]; exact hp
    · exact hn i a (by omega)
  · exact .inr ⟨h1, by omega, h3, h4⟩
theorem IsFirst.old {p : Int → Bool} {r k : Int} (h : IsFirst p r 1 k) (hr : ¬ r = 0) : IsFirst p r 1 (k + 1) := by
  rcases h with ⟨h, hn⟩ | ⟨h1, h2, h3, h4⟩
  · exact absurd h hr
  · exact .inr ⟨h1, by omega, h3, h4⟩
theorem IsFirst.new {p : Int → Bool} {r k : Int} (h : IsFirst p r 1 k) (hk : 0 ≤ k) (hr : r = 0) (hp : p (k + 1) = true) : IsFirst p (k + 1) 1 (k + 1) := by
  rcases h with ⟨h, hn⟩ | ⟨h1, h2, h3, h4⟩
  · exact .inr ⟨by omega, by omega, hp, fun i a b => hn i a (by omega)⟩
  · omega
end Go.Proofs.YtohbfcmmpaikhaaDoor

set_option linter.unusedVariables false
set_option linter.unusedSimpArgs false
namespace Go.Proofs.YtohbfcmmpaikhaaDoor
open Go Go.Lf Go.Proofs
attribute [local irreducible] Lf.rg Lf.ro Lf.PWp Lf.SOp Lf.ACall Lf.Scoped Lf.dg Lf.dw
set_option maxRecDepth 20000
set_option maxHeartbeats 4000000
structure Fl where
  (n v : ByteArray) (k : Bool)
deriving DecidableEq
@[go_sem] def flA (f : Fl) : List AV := [.lit (.string f.n), .lit (.string f.v), bl f.k]
@[go_sem] theorem purl_flA (l : List Fl) : purl (l.map flA).flatten = true := purl_map (fun _ => rfl) l
@[go_sem] theorem fz_mapfl {κ : List Nat} {σ : Sto} (l : List Fl) : List.map (fzl κ σ) (l.map flA) = l.map flA := fz_mapg (fun _ => rfl) l
def fl0 : Fl := ⟨⟨#[]⟩, ⟨#[]⟩, false⟩
def xsE : List Fl := []
def flN (f : Fl) : Fl := ⟨f.n, f.v, false⟩
def wt (f : Fl) : Int := f.n.size + f.v.size + 32
theorem wt_N (f : Fl) : wt (flN f) = wt f := rfl
theorem wt_pos (f : Fl) : 32 ≤ wt f := by unfold wt; omega
def sumW : List Fl → Int
  | [] => 0
  | f :: l => wt f + sumW l
theorem sumW_nil : sumW [] = 0 := rfl
theorem sumW_app : ∀ (a b : List Fl), sumW (a ++ b) = sumW a + sumW b
  | [], b => by rw [List.nil_append, sumW_nil]; omega
  | f :: a, b => by rw [List.cons_append, sumW, sumW, sumW_app a b]; omega
theorem sumW_pos : ∀ l, 0 ≤ sumW l ∧ (l ≠ [] → 32 ≤ sumW l)
  | [] => ⟨by rw [sumW_nil]; omega, fun h => absurd rfl h⟩
  | f :: l => by
    have := sumW_pos l
    have := wt_pos f
    rw [sumW]
    exact ⟨by omega, fun _ => by omega⟩
theorem sumW_rev : ∀ l, sumW l.reverse = sumW l
  | [] => rfl
  | f :: l => by rw [List.reverse_cons, sumW_app, sumW_rev l]; simp only [sumW]; omega
def keptL : List Fl → Int → List Fl
  | [], _ => []
  | x :: xs, m => if m < sumW (x :: xs) then keptL xs m else x :: xs
def fitN : List Fl → Int → Int → Nat
  | [], _, _ => 0
  | x :: l, n, m => if m < n + wt x then 0 else fitN l (n + wt x) m + 1
theorem keptL_sum (m : Int) (h0 : 0 ≤ m) : ∀ l, sumW (keptL l m) ≤ m
  | [] => h0
  | x :: xs => by
    unfold keptL
    split
    · exact keptL_sum m h0 xs
    · omega
theorem keptL_len (m : Int) : ∀ l, (keptL l m).length ≤ l.length
  | [] => Nat.le_refl _
  | x :: xs => by
    unfold keptL
    have := keptL_len m xs
    split
    · rw [List.length_cons]; omega
    · exact Nat.le_refl _
theorem keptL_mem (m : Int) : ∀ l, ∀ f ∈ keptL l m, f ∈ l
  | [] => fun f h => h
  | x :: xs => by
    intro f h
    unfold keptL at h
    split at h
    · exact List.mem_cons_of_mem _ (keptL_mem m xs f h)
    · exact h
theorem keptL_all {l : List Fl} {m : Int} (h : sumW l ≤ m) : keptL l m = l := by
  cases l with
  | nil => rfl
  | cons x xs => unfold keptL; rw [if_neg (by omega)]
theorem keptL_zero (l : List Fl) : keptL l 0 = [] := by
  have h := keptL_sum 0 (by decide) l
  have := sumW_pos (keptL l 0)
  by_cases he : keptL l 0 = []
  · exact he
  · have := this.2 he; omega
theorem fitN_len (m : Int) : ∀ (l : List Fl) (n : Int), fitN l n m ≤ l.length
  | [], _ => Nat.le_refl _
  | x :: l, n => by
    unfold fitN
    have := fitN_len m l (n + wt x)
    split
    · omega
    · rw [List.length_cons]; omega
theorem fitN_snoc (m : Int) (x : Fl) : ∀ (l : List Fl) (n : Int), fitN (l ++ [x]) n m = if n + sumW l ≤ m ∧ n + sumW l + wt x ≤ m then l.length + 1 else fitN l n m
  | [], n => by
    rw [List.nil_append, fitN, fitN, sumW_nil]
    have := wt_pos x
    by_cases h : m < n + wt x
    · rw [if_pos h, if_neg (by omega)]
    · rw [if_neg h, if_pos (by omega)]; rfl
  | y :: l, n => by
    rw [List.cons_append, fitN, fitN, sumW, fitN_snoc m x l (n + wt y)]
    have := wt_pos x
    have := sumW_pos l
    by_cases h : m < n + wt y
    · rw [if_pos h, if_pos h, if_neg (by omega)]
    · rw [if_neg h, if_neg h]
      by_cases h2 : n + wt y + sumW l ≤ m ∧ n + wt y + sumW l + wt x ≤ m
      · rw [if_pos h2, if_pos (by omega)]; rfl
      · rw [if_neg h2, if_neg (by omega)]
theorem kept_fit (m : Int) : ∀ l : List Fl, (keptL l m).reverse = l.reverse.take (fitN l.reverse 0 m)
  | [] => rfl
  | x :: xs => by
    rw [List.reverse_cons, fitN_snoc, sumW_rev, Int.zero_add]
    unfold keptL
    have := wt_pos x
    rw [sumW]
    by_cases h : m < wt x + sumW xs
    · rw [if_pos h, if_neg (by omega), kept_fit m xs, List.take_append_of_le_length (by rw [List.length_reverse]; have := fitN_len m xs.reverse 0; rw [List.length_reverse] at this; exact this)]
    · rw [if_neg h, if_pos (by omega), List.take_of_length_le (by simp), List.reverse_cons]
theorem dloop_is (l : List UInt8) : ∀ (k i : Nat) (r : List UInt8), i + k = l.length → ByteArray.toList.loop ⟨l.toArray⟩ i r = r.reverse ++ l.drop i := by
  intro k
  induction k with
  | zero =>
    intro i r h
    unfold ByteArray.toList.loop
    have hs : (ByteArray.mk l.toArray).size = l.length := rfl
    rw [if_neg (by rw [hs]; omega), List.drop_of_length_le (by omega), List.append_nil]
  | succ k ih =>
    intro i r h
    unfold ByteArray.toList.loop
    have hs : (ByteArray.mk l.toArray).size = l.length := rfl
    rw [if_pos (by rw [hs]; omega), ih (i + 1) _ (by omega)]
    have hg : (ByteArray.mk l.toArray).get! i = l[i]'(by omega) := by
      show (l.toArray)[i]! = _
      simp [show i < l.length by omega]
    rw [hg, List.reverse_cons, List.append_assoc]
    congr 1
    rw [List.drop_eq_getElem_cons (i := i) (by omega)]
    rfl
theorem dtoList_mk (l : List UInt8) : ByteArray.toList ⟨l.toArray⟩ = l := by
  unfold ByteArray.toList
  rw [dloop_is l l.length 0 [] (by omega)]
  simp
@[go_sem] theorem dsbeq (a b : ByteArray) : (a.toList == b.toList) = decide (a = b) := by
  obtain ⟨⟨a⟩⟩ := a; obtain ⟨⟨b⟩⟩ := b
  rw [dtoList_mk, dtoList_mk]
  by_cases h : a = b <;> simp [h]
theorem ddrop_at {α : Type} {l : List α} {i : Nat} {x : α} (h : l[i]? = some x) : l.drop i = x :: l.drop (i + 1) := by
  obtain ⟨hi, rfl⟩ := List.getElem?_eq_some_iff.1 h
  exact List.drop_eq_getElem_cons hi
theorem dtake_snoc {α : Type} {l : List α} {i : Nat} {x : α} (h : l[i]? = some x) : l.take (i + 1) = l.take i ++ [x] := by
  rw [List.take_add_one, h]; rfl
theorem rev_at {l : List Fl} {i : Nat} {f : Fl} (h : l.reverse[i]? = some f) : l[l.length - (i + 1)]? = some f := by
  have hi := (List.getElem?_eq_some_iff.1 h).1
  rw [List.length_reverse] at hi
  rw [List.getElem?_reverse hi] at h
  rw [← h]; congr 1; omega
theorem daeq_post {P : Program} {f : FuncId} {args : List AV} {σ τ τ2 : Sto} {r r2 : AV} (h : AEq P f args σ r τ) (hw : ∀ ρ w v, Rel τ ρ w → GV τ ρ w → VR τ ρ w r v → ∃ ρ', Rel τ2 ρ' w ∧ VR τ2 ρ' w r2 v ∧ Step τ.length τ ρ w τ2 ρ' w) : AEq P f args σ r2 τ2 := by
  unfold AEq ACall at *
  intro ρ w vs hr hG hv
  refine (h ρ w vs hr hG hv).mono ?_
  rintro e w' ⟨x, σ3, ρ3, v, h1, ⟨rfl, rfl⟩, h3, h4, h5⟩
  obtain ⟨ρ4, k1, k2, k3⟩ := hw ρ3 w' v h3 (hG.carry h5) h4
  exact ⟨_, _, ρ4, v, h1, ⟨rfl, rfl⟩, k1, k2, h5.trans (k3.mono h5.len')⟩
theorem dpost_rowc {σ : Sto} {q : Bool} {cs : List AV} {r : AV} (o k e sz : Nat) (h00 : 0 < sz) (hob : σ[o]? = some (.box cs)) (hc : cs[k]? = some (.sl true q [])) (ρ : Rz) (w : World) (v : Value) (hr : Rel σ ρ w) (hG : GV σ ρ w) (hv : VR σ ρ w r v) :
    ∃ ρ', Rel ((σ ++ [Ob.row 0 e sz []]).set o (Ob.box (cs.set k (AV.row σ.length 0)))) ρ' w ∧ VR ((σ ++ [Ob.row 0 e sz []]).set o (Ob.box (cs.set k (AV.row σ.length 0)))) ρ' w r v ∧ Step σ.length σ ρ w ((σ ++ [Ob.row 0 e sz []]).set o (Ob.box (cs.set k (AV.row σ.length 0)))) ρ' w := by
  obtain ⟨ρ', _, h2, h3⟩ := wk_rowc (N := 0) (n := σ.length) (Γ := []) o k e sz h00 hob hc ρ w { tmps := #[], defers := [] } (Nat.le_refl _) ⟨rfl, ⟨rfl, hG⟩, fun i => trivial⟩ hr
  exact ⟨ρ', h2, VR.carry h3 _ _ hv, h3⟩
theorem d_weight (f : Fl) (h1 : f.n.size ≤ 1000000000) (h2 : f.v.size ≤ 1000000000) : AEq Tryd.prog 111 [.ag (flA f)] [] (i64 (wt f)) [] := by
  refine acall_body Tryd.func111 rfl Tryd.ntmps111 (by simp) (fun hsc => ?_); simp only [Lf.enter, Nat.reduceAdd]; clear hsc
  have hU := True.intro
  repeat' (first | (guard_target =~ PWp _ _ _ _ _ _ _; first | (refine pwp_seq_k (fun K hK => ?_)) | (refine pwp_rg_then ?_) | (refine pwp_ret ?_)) | (guard_target =~ rg _ _ _ _ _ _ _; first | (guard_target =~ rg _ _ _ [] _ _ _; first | (refine rg_end ?_)) | (refine rg_a rfl (h := ?_)) | (refine rg_v rfl (h := ?_)) | (refine rg_s rfl ?_)) | (guard_target =~ SOp _ _ _ _ _ _; first | (guard_target =~ SOp _ _ ⟨_, .box _ _, _, _, _, none⟩ _ _ _; first | (refine n_box rfl (hK := ?_)))) | (guard_target =~ (_ ∨ _) ∧ _; first | ((refine end_d [] (by rw [Tryd.results111, Lf.res1]) (ale_1 ?_) ?_) <;> (try (first | exact aleT | exact stq (by with_reducible rfl) | exact stq (by rfl) | exact stq (by simp (disch := omega) only [go_sem, seval, ↓reduceIte, hU]))))) | (refine hK _ _ ?_; clear hK K))
theorem r_weight (f : Fl) (h1 : f.n.size ≤ 1000000000) (h2 : f.v.size ≤ 1000000000) : AEq Tryd.prog 33 [.ag (flA f)] [] (i64 (wt f)) [] := by
  refine acall_body Tryd.func33 rfl Tryd.ntmps33 (by simp) (fun hsc => ?_); simp only [Lf.enter, Nat.reduceAdd]; clear hsc
  have hU := True.intro
  repeat' (first | (guard_target =~ PWp _ _ _ _ _ _ _; first | (refine pwp_seq_k (fun K hK => ?_)) | (refine pwp_rg_then ?_) | (refine pwp_ret ?_)) | (guard_target =~ rg _ _ _ _ _ _ _; first | (guard_target =~ rg _ _ _ [] _ _ _; first | (refine rg_end ?_)) | (refine rg_a rfl (h := ?_)) | (refine rg_v rfl (h := ?_)) | (refine rg_s rfl ?_)) | (guard_target =~ SOp _ _ _ _ _ _; first | (guard_target =~ SOp _ _ ⟨_, .box _ _, _, _, _, none⟩ _ _ _; first | (refine n_box rfl (hK := ?_)))) | (guard_target =~ (_ ∨ _) ∧ _; first | ((refine end_d [] (by rw [Tryd.results33, Lf.res1]) (ale_1 ?_) ?_) <;> (try (first | exact aleT | exact stq (by with_reducible rfl) | exact stq (by rfl) | exact stq (by simp (disch := omega) only [go_sem, seval, ↓reduceIte, hU]))))) | (refine hK _ _ ?_; clear hK K))
theorem d_may (m : Int) : AEq Tryd.prog 80 [i64 m] [] (bl (decide (0 ≤ m ∧ m ≤ 2147483647))) [] := by
  refine acall_body Tryd.func80 rfl Tryd.ntmps80 (by simp) (fun hsc => ?_); simp only [Lf.enter, Nat.reduceAdd]; clear hsc
  have hU := True.intro
  repeat' (first | (guard_target =~ PWp _ _ _ _ _ _ _; first | (refine pwp_seq_k (fun K hK => ?_)) | (refine pwp_rg_then ?_) | (refine pwp_ret ?_)) | (guard_target =~ rg _ _ _ _ _ _ _; first | (guard_target =~ rg _ _ _ (⟨_, .binOp _ _ _ _ _, _, _, _, some _⟩ :: _) _ _ _; first | (refine rg_gq rfl (h := ?_))) | (guard_target =~ rg _ _ _ (⟨_, .move _, _, _, _, some _⟩ :: _) _ _ _; first | (refine rg_gq rfl (h := ?_))) | (guard_target =~ rg _ _ _ [] _ _ _; first | (refine rg_end ?_)) | (refine rg_a rfl (h := ?_)) | (refine rg_v rfl (h := ?_))) | (guard_target =~ (_ ∨ _) ∧ _; first | ((refine end_d [] (by rw [Tryd.results80, Lf.res1]) (ale_1 ?_) ?_) <;> (try (first | exact aleT | exact stq (by with_reducible rfl) | exact stq (by rfl) | exact stq (by simp (disch := omega) only [go_sem, seval, ↓reduceIte, hU]))))) | (refine hK _ _ ?_; clear hK K))
  exact ale_bl (by simp)
theorem r_may (m : Int) : AEq Tryd.prog 24 [i64 m] [] (bl (decide (0 ≤ m ∧ m ≤ 2147483647))) [] := by
  refine acall_body Tryd.func24 rfl Tryd.ntmps24 (by simp) (fun hsc => ?_); simp only [Lf.enter, Nat.reduceAdd]; clear hsc
  have hU := True.intro
  repeat' (first | (guard_target =~ PWp _ _ _ _ _ _ _; first | (refine pwp_seq_k (fun K hK => ?_)) | (refine pwp_rg_then ?_) | (refine pwp_ret ?_)) | (guard_target =~ rg _ _ _ _ _ _ _; first | (guard_target =~ rg _ _ _ (⟨_, .binOp _ _ _ _ _, _, _, _, some _⟩ :: _) _ _ _; first | (refine rg_gq rfl (h := ?_))) | (guard_target =~ rg _ _ _ (⟨_, .move _, _, _, _, some _⟩ :: _) _ _ _; first | (refine rg_gq rfl (h := ?_))) | (guard_target =~ rg _ _ _ [] _ _ _; first | (refine rg_end ?_)) | (refine rg_a rfl (h := ?_)) | (refine rg_v rfl (h := ?_))) | (guard_target =~ (_ ∨ _) ∧ _; first | ((refine end_d [] (by rw [Tryd.results24, Lf.res1]) (ale_1 ?_) ?_) <;> (try (first | exact aleT | exact stq (by with_reducible rfl) | exact stq (by rfl) | exact stq (by simp (disch := omega) only [go_sem, seval, ↓reduceIte, hU]))))) | (refine hK _ _ ?_; clear hK K))
  exact ale_bl (by simp)
end Go.Proofs.YtohbfcmmpaikhaaDoor

set_option linter.unusedVariables false
set_option linter.unusedSimpArgs false
namespace Go.Proofs.YtohbfcmmpaikhaaDoor
open Go Go.Lf Go.Proofs
attribute [local irreducible] Lf.rg Lf.ro Lf.PWp Lf.SOp Lf.ACall Lf.Scoped Lf.dg Lf.dw
set_option maxRecDepth 20000
set_option maxHeartbeats 4000000
theorem set_fl3 (l : List Fl) (i : Nat) (f : Fl) : (l.map flA).set i [.lit (.string f.n), .lit (.string f.v), bl f.k] = (l.set i f).map flA := List.map_set.symm
def revP (l : List Fl) : Nat → List Fl
  | 0 => l
  | i + 1 => ((revP l i).set i (l.getD (l.length - 1 - i) fl0)).set (l.length - 1 - i) (l.getD i fl0)
theorem revP_len (l : List Fl) : ∀ i, (revP l i).length = l.length
  | 0 => rfl
  | i + 1 => by rw [revP, List.length_set, List.length_set, revP_len l i]
theorem revP_get (l : List Fl) : ∀ (i : Nat), 2 * i ≤ l.length → ∀ t : Nat, t < l.length → (revP l i)[t]? = if t < i ∨ l.length ≤ t + i then l[l.length - 1 - t]? else l[t]?
  | 0, _, t, ht => by rw [if_neg (by omega)]; rfl
  | i + 1, h, t, ht => by
    have ih := revP_get l i (by omega) t ht
    have hl := revP_len l i
    have gd : ∀ j, j < l.length → some (l.getD j fl0) = l[j]? := by
      intro j hj
      rw [List.getD_eq_getElem?_getD, List.getElem?_eq_getElem hj]; rfl
    rw [revP, List.getElem?_set]
    by_cases h1 : l.length - 1 - i = t
    · rw [if_pos h1, if_pos (by rw [List.length_set, hl]; omega), if_pos (by omega), gd i (by omega), ← h1]
      congr 1; omega
    · rw [if_neg h1, List.getElem?_set]
      by_cases h2 : i = t
      · rw [if_pos h2, if_pos (by rw [hl]; omega), if_pos (by omega), gd _ (by omega), h2]
      · rw [if_neg h2, ih]
        by_cases h3 : t < i ∨ l.length ≤ t + i
        · rw [if_pos h3, if_pos (by omega)]
        · rw [if_neg h3, if_neg (by omega)]
theorem revP_end {l : List Fl} {i : Nat} (h : 2 * i ≤ l.length) (h2 : l.length ≤ 2 * i + 1) : revP l i = l.reverse := by
  apply List.ext_getElem?
  intro t
  by_cases ht : t < l.length
  · rw [revP_get l i h t ht, List.getElem?_reverse ht]
    by_cases h3 : t < i ∨ l.length ≤ t + i
    · rw [if_pos h3]
    · rw [if_neg h3]; congr 1; omega
  · rw [List.getElem?_eq_none (by rw [revP_len]; omega), List.getElem?_eq_none (by rw [List.length_reverse]; omega)]
theorem revP_lo {l : List Fl} {i : Nat} (h : 2 * i + 1 < l.length) : (revP l i)[i]? = some (l.getD i fl0) ∧ (revP l i)[l.length - 1 - i]? = some (l.getD (l.length - 1 - i) fl0) := by
  have gd : ∀ j, j < l.length → some (l.getD j fl0) = l[j]? := by
    intro j hj
    rw [List.getD_eq_getElem?_getD, List.getElem?_eq_getElem hj]; rfl
  constructor
  · rw [revP_get l i (by omega) i (by omega), if_neg (by omega), gd i (by omega)]
  · rw [revP_get l i (by omega) _ (by omega), if_neg (by omega), gd _ (by omega)]
theorem clone_f_r (f q : Bool) (l : List Fl) (h : l.length ≤ 100000000) : AEq Tryd.prog 81 [.sl f q (l.map flA)] [] (.row 0 0) [.row 0 67 3 (l.map flA)] := by
  refine acall_body Tryd.func81 rfl Tryd.ntmps81 (by simp) (fun hsc => ?_); simp only [Lf.enter, Nat.reduceAdd]; clear hsc
  have hU := True.intro
  repeat' (first | (guard_target =~ PWp _ _ _ _ _ _ _; first | ((guard_target =~ PWp _ _ _ Code.ret _ _ _); refine pwp_row 2 67 3 (by decide) (by rfl) rfl rfl ?_) | (refine pwp_seq_k (fun K hK => ?_)) | (refine pwp_rg_then ?_) | (refine pwp_ret ?_) | (refine pwp_skip ?_) | ((refine pwp_cond_d (fun hcd => ?_) (fun hcd => ?_)) <;> (try simp only [hcP] at hcd) <;> (try exact cdT))) | (guard_target =~ rg _ _ _ _ _ _ _; first | (guard_target =~ rg _ _ _ [] _ _ _; first | (refine rg_end ?_)) | (refine rg_a rfl (h := ?_)) | (refine rg_v rfl (h := ?_)) | (refine rg_s rfl ?_)) | (guard_target =~ SOp _ _ _ _ _ _; first | (guard_target =~ SOp _ _ ⟨_, .binOp _ _ _ _ _, _, _, _, none⟩ _ _ _; first | (refine n_eqnil (ne := false) rfl (hx := ⟨_, sT, rfl⟩) (hK := (fun b hb => ?_)))) | (guard_target =~ SOp _ _ ⟨_, .buildSlice _ _ _, _, _, _, none⟩ _ _ _; first | (refine n_lit rfl (he := by first | exact eo4 | exact eo9 | exact eo50 | exact eo67 | fail) (hK := ?_))) | (guard_target =~ SOp _ _ ⟨_, .call ⟨.builtin .append, _, _⟩, _, _, _, none⟩ _ _ _; first | (refine n_append_new rfl (he := by first | exact eo4 | exact eo9 | exact eo50 | exact eo67 | fail) (hK := ?_)))) | (guard_target =~ (_ ∨ _) ∧ _; first | ((refine end_d [0] (by rw [Tryd.results81, Lf.res1]) (ale_1 ?_) ?_) <;> (try (first | exact aleT | exact stq (by with_reducible rfl) | exact stq (by rfl) | exact stq (by simp (disch := omega) only [go_sem, seval, ↓reduceIte, hU]))))) | (refine hK _ _ ?_; clear hK K))
  exact stq (by have h0 := hb hcd; rw [List.length_map] at h0; rw [List.eq_nil_of_length_eq_zero h0]; rfl)
theorem rev_f (l : List Fl) (s : Nat) (h : l.length ≤ 100000000) : AEq Tryd.prog 87 [.row 0 s] [.row s 67 3 (l.map flA)] (.tu []) [.row s 67 3 (l.reverse.map flA)] := by
  refine acall_body Tryd.func87 rfl Tryd.ntmps87 (by simp) (fun hsc => ?_); simp only [Lf.enter, Nat.reduceAdd]; clear hsc
  have hU := True.intro
  repeat' (first | (guard_target =~ PWp _ _ _ _ _ _ _; first | (refine pwp_seq_k (fun K hK => ?_)) | (refine pwp_block ?_) | (refine pwp_rg_then ?_)) | (guard_target =~ rg _ _ _ _ _ _ _; first | (guard_target =~ rg _ _ _ [] _ _ _; first | (refine rg_end ?_)) | (refine rg_a rfl (h := ?_)) | (refine rg_v rfl (h := ?_))) | (refine hK _ _ ?_; clear hK K))
  refine pwp_loop_e [2, 3, 7, 8, 9, 10, 11, 12, 13, 14, 15, 16, 17, 18, 19, 20, 21, 22, 23, 24, 25, 26, 27] (fun i : Nat => [(2, i64 i), (3, i64 ((l.length : Int) - 1 - i))]) (fun i => [.row s 67 3 ((revP l i).map flA)]) (fun i => 2 * i ≤ l.length) (fun i => l.length - i) 0 (Nat.zero_le _) ?_ rfl ?_
  · (refine ⟨⟨_, sT, ?_⟩, ⟨_, sT, ?_⟩, trivial⟩ <;> (try (first | exact aleT)))
    all_goals exact ale_i (by omega)
  · rintro i hi
    simp only [mask, List.map_cons, List.map_nil, List.cons_append, List.nil_append]
    have hl := revP_len l i
    by_cases hlt : 2 * i + 1 < l.length
    · obtain ⟨hx, hy⟩ := revP_lo hlt
      have hj : ((l.length : Int) - 1 - i).toNat = l.length - 1 - i := by omega
      have hr : revP l (i + 1) = ((revP l i).set i (l.getD (l.length - 1 - i) fl0)).set (l.length - 1 - i) (l.getD i fl0) := rfl
      have hxA : (List.map flA (revP l i))[i]? = some (flA (l.getD i fl0)) := by rw [List.getElem?_map, hx]; rfl
      have hyA : (List.map flA (revP l i))[l.length - 1 - i]? = some (flA (l.getD (l.length - 1 - i) fl0)) := by rw [List.getElem?_map, hy]; rfl
      have hyB : (List.map flA ((revP l i).set i (l.getD (l.length - 1 - i) fl0)))[l.length - 1 - i]? = some (flA (l.getD (l.length - 1 - i) fl0)) := by rw [List.getElem?_map, List.getElem?_set, if_neg (by omega), hy]; rfl
      have hU := And.intro @set_fl3 ( And.intro @hj ( And.intro @hxA ( And.intro @hyA (@hyB))))
      repeat' (first | (guard_target =~ PWp _ _ _ _ _ _ _; first | (refine pwp_draw_ord_end (id := 3) [0, 1, 4, 5, 6, 7, 8, 9, 10, 11, 12, 13, 2, 3, 14, 15] [13, 15] mixed (by kernel_rfl) (by kernel_rfl) ?_) | (refine pwp_seq_k (fun K hK => ?_)) | (refine pwp_block ?_) | (refine pwp_rg_then ?_) | (refine pwp_skip ?_) | ((refine pwp_cond_d (fun hcd => ?_) (fun hcd => ?_)) <;> (try simp only [hcP] at hcd) <;> (try exact cdT))) | (guard_target =~ rg _ _ _ _ _ _ _; first | (guard_target =~ rg _ _ _ [] _ _ _; first | (refine rg_end ?_)) | (refine rg_a rfl (h := ?_)) | (refine rg_v rfl (h := ?_))) | (guard_target =~ dw _ _ _ _ _ _ _ _ _ _; first | ((first | guard_target =~ dw _ _ _ _ _ (0 :: _) _ _ _ _ | guard_target =~ dw _ _ _ _ _ (1 :: _) _ _ _ _ | guard_target =~ dw _ _ _ _ _ (2 :: _) _ _ _ _ | guard_target =~ dw _ _ _ _ _ (3 :: _) _ _ _ _ | guard_target =~ dw _ _ _ _ _ (4 :: _) _ _ _ _ | guard_target =~ dw _ _ _ _ _ (5 :: _) _ _ _ _ | guard_target =~ dw _ _ _ _ _ (8 :: _) _ _ _ _ | guard_target =~ dw _ _ _ _ _ (9 :: _) _ _ _ _); first | (refine dw_p rfl rfl (h := (fun τ => ro_v rfl (h := ro_end ⟨rfl, rfl⟩))) (hk := ?_)) | (refine dw_c rfl rfl (h := ro_v rfl (h := ro_end ⟨rfl, rfl⟩)) (hk := ?_))) | ((first | guard_target =~ dw _ _ _ _ _ (6 :: _) _ _ _ _ | guard_target =~ dw _ _ _ _ _ (10 :: _) _ _ _ _ | guard_target =~ dw _ _ _ _ _ (12 :: _) _ _ _ _ | guard_target =~ dw _ _ _ _ _ (14 :: _) _ _ _ _); first | (refine dw_c rfl rfl (h := ro_s (h := n_index_row rfl (hK := ro_end ⟨rfl, rfl⟩))) (hk := ?_))) | ((first | guard_target =~ dw _ _ _ _ _ (7 :: _) _ _ _ _ | guard_target =~ dw _ _ _ _ _ (11 :: _) _ _ _ _); first | (refine dw_p rfl rfl (h := (fun τ => ro_v rfl (h := ro_end ⟨rfl, rfl⟩))) (hk := ?_)) | (refine dw_c rfl rfl (h := ro_v rfl (h := ro_end ⟨rfl, rfl⟩)) (hk := ?_))) | ((first | guard_target =~ dw _ _ _ _ _ (13 :: _) _ _ _ _ | guard_target =~ dw _ _ _ _ _ (15 :: _) _ _ _ _); first | (refine dw_wn rfl rfl (h := ro_n (h := n_store_ep rfl (hK := ro_end ⟨rfl, rfl⟩))) (hk := ?_))) | (guard_target =~ dw _ _ _ _ _ [] _ _ _ _; first | (refine dw_nil ?_))) | (refine hK _ _ ?_; clear hK K))
      refine ⟨i + 1, by omega, by omega, ?_, (by repeat' (first | exact agr_refl | refine agr_cons (by rfl) ?_)), by first | (rw [hr]; done) | (rw [hr]; rfl) | fail⟩
      (refine ⟨⟨_, sT, ?_⟩, ⟨_, sT, ?_⟩, trivial⟩ <;> (try (first | exact aleT)))
      all_goals exact ale_i (by omega)
    · have he := revP_end hi (by omega)
      have hU := @he
      repeat' (first | (guard_target =~ PWp _ _ _ _ _ _ _; first | (refine pwp_seq_k (fun K hK => ?_)) | (refine pwp_rg_then ?_) | (refine pwp_exit ?_) | ((refine pwp_cond_d (fun hcd => ?_) (fun hcd => ?_)) <;> (try simp only [hcP] at hcd) <;> (try exact cdT))) | (guard_target =~ rg _ _ _ _ _ _ _; first | (guard_target =~ rg _ _ _ [] _ _ _; first | (refine rg_end ?_)) | (refine rg_v rfl (h := ?_))) | (guard_target =~ (_ ∨ _) ∧ _; first | ((refine end_d [0] (by rw [Tryd.results87, Lf.res0]) ale_0 ?_) <;> (try (first | exact aleT | exact stq (by with_reducible rfl) | exact stq (by rfl) | exact stq (by simp (disch := omega) only [go_sem, seval, ↓reduceIte, hU]))))) | (refine hK _ _ ?_; clear hK K))
end Go.Proofs.YtohbfcmmpaikhaaDoor

