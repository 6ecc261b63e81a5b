import Derived.Test.YtohbfcmmpaikhaaDoorZ05
import Derived.Test.YtohbfcmmpaikhaaDoorZ06
import Derived.Test.YtohbfcmmpaikhaaDoorZ03
import Derived.Test.YtohbfcmmpaikhaaDoorLc
import Derived.Test.YtohbfcmmpaikhaaDoorZ01
import Derived.Laws.Strings
set_option linter.unusedVariables false
set_option linter.unusedSimpArgs false
namespace Go.Proofs.YtohbfcmmpaikhaaDoor
open Go Go.Lf Go.Proofs
attribute [local irreducible] Lf.rg Lf.ro Lf.PWp Lf.SOp Lf.ACall Lf.Scoped Lf.dg Lf.dw
set_option maxRecDepth 20000
set_option maxHeartbeats 4000000
/-! the greater of two by n_max_m -/
def slB (s : Bool) (l : List UInt8) : List UInt8 := if s then rowB (encL l) else l
def slF (s : Bool) : Int := if s then 128 else 0
def slP (s : Bool) (l : List UInt8) : List UInt8 := pfxP (slF s) 7 ((slB s l).length : Int) ++ slB s l
theorem slP_f (l : List UInt8) : slP false l = pfxP 0 7 (l.length : Int) ++ l := rfl
theorem slP_t (l : List UInt8) : slP true l = pfxP 128 7 ((rowB (encL l)).length : Int) ++ rowB (encL l) := rfl
theorem enc_bd (l : List UInt8) : (rowB (encL l)).length ≤ 4 * l.length := by
 have h1 := encL_len l
 rw [rowB_len]; omega
theorem pfxP_len (f b n : Int) : 1 ≤ (pfxP f b n).length ∧ (pfxP f b n).length ≤ 6 := by
 unfold pfxP
 split
 ·rw [oneB_len]; omega
 ·have := digF_len 4 (n - (pwI b - 1))
  rw [List.length_append, oneB_len]; omega
theorem p7_0 : (0 : Int) % pwI 7 = 0 := by decide
theorem p7_128 : (128 : Int) % pwI 7 = 0 := by decide
def hiB (b : List UInt8) : Bool := match b[0]? with
 | some x => decide (¬ (x.toNat : Int) < 128)
 | none => false
def cutB (b : List UInt8) (k n : Nat) : List UInt8 := (b.drop k).take n
def slG (b : List UInt8) (most : Int) : List UInt8 × Bool × Int × Int :=
 if (pgG b 7).2.2 ≠ 0 then ([], false, 0, (pgG b 7).2.2)
 else if max most 0 < (pgG b 7).1 then ([], false, 0, 9)
 else if (b.length : Int) - (pgG b 7).2.1 < (pgG b 7).1 then ([], false, 0, 3)
 else if hiB b = false then (cutB b (pgG b 7).2.1.toNat (pgG b 7).1.toNat, false, (pgG b 7).2.1 + (pgG b 7).1, 0)
 else if (huM (bitsL (cutB b (pgG b 7).2.1.toNat (pgG b 7).1.toNat)) 0 0 []).2 ≠ 0 then ([], false, 0, (huM (bitsL (cutB b (pgG b 7).2.1.toNat (pgG b 7).1.toNat)) 0 0 []).2)
 else ((huM (bitsL (cutB b (pgG b 7).2.1.toNat (pgG b 7).1.toNat)) 0 0 []).1, true, (pgG b 7).2.1 + (pgG b 7).1, 0)
attribute [local irreducible] pwI pfxP pgF pgG huM bitsL rowB encL
theorem sput (l : List UInt8) (s : Bool) (hl : l.length ≤ 100000) : AEq Tryd.prog 51 [.lit (.string ⟨l.toArray⟩), bl s] [] (.sl false false ((slP s l).map byteA)) [] := by
 have h70 := p7_0
 have h71 := p7_128
 have hel := enc_bd l
 cases s with
 | false =>
  have hpl := pfxP_len 0 7 (l.length : Int)
  rw [slP_f, List.map_append]
  refine acall_body Tryd.func51 rfl Tryd.ntmps51 (by simp) (fun hsc => ?_); simp only [Lf.enter, Nat.reduceAdd]; clear hsc
  have hU := True.intro
  repeat' (first | (guard_target =~ PWp _ _ _ _ _ _ _; first | (refine pwp_seq_k (fun K hK => ?_)) | (refine pwp_rg_then ?_) | (refine pwp_ret ?_) | (refine pwp_skip ?_) | ((refine pwp_cond_d (fun hcd => ?_) (fun hcd => ?_)) <;> (try simp only [hcP] at hcd) <;> (try exact cdT))) | (guard_target =~ rg _ _ _ _ _ _ _; first | (guard_target =~ rg _ _ _ [] _ _ _; first | (refine rg_end ?_)) | (refine rg_a rfl (h := ?_)) | (refine rg_x rfl (hy := rfl) (h := ?_)) | (refine rg_v rfl (h := ?_)) | (refine rg_s rfl ?_)) | (guard_target =~ SOp _ _ _ _ _ _; first | (guard_target =~ SOp _ _ ⟨_, .call ⟨.value (.func 50), _, _⟩, _, _, _, none⟩ _ _ _; first | (refine n_call (f := 50) rfl Tryd.call50 (h := AEq.sub' [] (hc := pput_r _ _ _ aoT aoT aoT aoT aoT aoT aoT) (hq := ?_)))) | (guard_target =~ SOp _ _ ⟨_, .call ⟨.builtin .append, _, _⟩, _, _, _, none⟩ _ _ _; first | (refine n_append_row rfl (he := by first | exact eo3 | exact eo4 | exact eo5 | exact eo9 | exact eo22 | exact eo28 | fail) (hK := ?_))) | (guard_target =~ SOp _ _ ⟨_, .convert _ _ _, _, _, _, none⟩ _ _ _; first | (refine n_bytes rfl (by first | (simp (disch := omega) only [go_sem, seval, ↓reduceIte, hU]; done) | rfl) sT (by first | (simp (disch := omega) only [go_sem, seval, ↓reduceIte, hU]; done) | rfl) sT (by (try simp only [List.length_map, List.length_append, List.length_cons, List.length_nil, List.length_replicate, List.length_take, List.length_drop, List.length_set]); omega) ?_))) | (guard_target =~ (_ ∨ _) ∧ _; first | ((refine end_d [] (by rw [Tryd.results51, Lf.res1]) (ale_1 ?_) ?_) <;> (try (first | exact aleT | exact stq (by with_reducible rfl) | exact stq (by rfl) | exact stq (by simp (disch := omega) only [go_sem, seval, ↓reduceIte, hU]))))) | (refine hK _ _ ?_; clear hK K))
 | true =>
  have hpl := pfxP_len 128 7 ((rowB (encL l)).length : Int)
  rw [slP_t, List.map_append]
  refine acall_body Tryd.func51 rfl Tryd.ntmps51 (by simp) (fun hsc => ?_); simp only [Lf.enter, Nat.reduceAdd]; clear hsc
  have hU := True.intro
  repeat' (first | (guard_target =~ PWp _ _ _ _ _ _ _; first | (refine pwp_seq_k (fun K hK => ?_)) | (refine pwp_rg_then ?_) | (refine pwp_ret ?_) | ((refine pwp_cond_d (fun hcd => ?_) (fun hcd => ?_)) <;> (try simp only [hcP] at hcd) <;> (try exact cdT))) | (guard_target =~ rg _ _ _ _ _ _ _; first | (guard_target =~ rg _ _ _ [] _ _ _; first | (refine rg_end ?_)) | (refine rg_a rfl (h := ?_)) | (refine rg_x rfl (hy := rfl) (h := ?_)) | (refine rg_v rfl (h := ?_)) | (refine rg_s rfl ?_)) | (guard_target =~ SOp _ _ _ _ _ _; first | (guard_target =~ SOp _ _ ⟨_, .call ⟨.value (.func 77), _, _⟩, _, _, _, none⟩ _ _ _; first | (refine n_call (f := 77) rfl Tryd.call77 (h := AEq.pure' agT (hencode _ _ _ aoT) (hq := ?_)))) | (guard_target =~ SOp _ _ ⟨_, .call ⟨.value (.func 50), _, _⟩, _, _, _, none⟩ _ _ _; first | (refine n_call (f := 50) rfl Tryd.call50 (h := AEq.sub' [] (hc := pput_r _ _ _ aoT aoT aoT aoT aoT aoT aoT) (hq := ?_)))) | (guard_target =~ SOp _ _ ⟨_, .call ⟨.builtin .append, _, _⟩, _, _, _, none⟩ _ _ _; first | (refine n_append_row rfl (he := by first | exact eo3 | exact eo4 | exact eo5 | exact eo9 | exact eo22 | exact eo28 | fail) (hK := ?_))) | (guard_target =~ SOp _ _ ⟨_, .convert _ _ _, _, _, _, none⟩ _ _ _; first | (refine n_bytes rfl (by first | (simp (disch := omega) only [go_sem, seval, ↓reduceIte, hU]; done) | rfl) sT (by first | (simp (disch := omega) only [go_sem, seval, ↓reduceIte, hU]; done) | rfl) sT (by (try simp only [List.length_map, List.length_append, List.length_cons, List.length_nil, List.length_replicate, List.length_take, List.length_drop, List.length_set]); omega) ?_))) | (guard_target =~ (_ ∨ _) ∧ _; first | ((refine end_d [] (by rw [Tryd.results51, Lf.res1]) (ale_1 ?_) ?_) <;> (try (first | exact aleT | exact stq (by with_reducible rfl) | exact stq (by rfl) | exact stq (by simp (disch := omega) only [go_sem, seval, ↓reduceIte, hU]))))) | (refine hK _ _ ?_; clear hK K))
theorem rsput (l : List UInt8) (s : Bool) (hl : l.length ≤ 100000) : AEq Tryd.prog 54 [.lit (.string ⟨l.toArray⟩), bl s] [] (.sl false false ((slP s l).map byteA)) [] := by
 have h70 := p7_0
 have h71 := p7_128
 have hel := enc_bd l
 cases s with
 | false =>
  have hpl := pfxP_len 0 7 (l.length : Int)
  rw [slP_f, List.map_append]
  refine acall_body Tryd.func54 rfl Tryd.ntmps54 (by simp) (fun hsc => ?_); simp only [Lf.enter, Nat.reduceAdd]; clear hsc
  have hU := True.intro
  repeat' (first | (guard_target =~ PWp _ _ _ _ _ _ _; first | (refine pwp_seq_k (fun K hK => ?_)) | (refine pwp_rg_then ?_) | (refine pwp_ret ?_) | (refine pwp_skip ?_) | ((refine pwp_cond_d (fun hcd => ?_) (fun hcd => ?_)) <;> (try simp only [hcP] at hcd) <;> (try exact cdT))) | (guard_target =~ rg _ _ _ _ _ _ _; first | (guard_target =~ rg _ _ _ [] _ _ _; first | (refine rg_end ?_)) | (refine rg_a rfl (h := ?_)) | (refine rg_x rfl (hy := rfl) (h := ?_)) | (refine rg_v rfl (h := ?_)) | (refine rg_s rfl ?_)) | (guard_target =~ SOp _ _ _ _ _ _; first | (guard_target =~ SOp _ _ ⟨_, .call ⟨.value (.func 53), _, _⟩, _, _, _, none⟩ _ _ _; first | (refine n_call (f := 53) rfl Tryd.call53 (h := AEq.sub' [] (hc := rput18_r _ _ _ aoT aoT aoT aoT aoT aoT aoT) (hq := ?_)))) | (guard_target =~ SOp _ _ ⟨_, .call ⟨.builtin .append, _, _⟩, _, _, _, none⟩ _ _ _; first | (refine n_append_row rfl (he := by first | exact eo3 | exact eo4 | exact eo5 | exact eo9 | exact eo22 | exact eo28 | fail) (hK := ?_))) | (guard_target =~ SOp _ _ ⟨_, .convert _ _ _, _, _, _, none⟩ _ _ _; first | (refine n_bytes rfl (by first | (simp (disch := omega) only [go_sem, seval, ↓reduceIte, hU]; done) | rfl) sT (by first | (simp (disch := omega) only [go_sem, seval, ↓reduceIte, hU]; done) | rfl) sT (by (try simp only [List.length_map, List.length_append, List.length_cons, List.length_nil, List.length_replicate, List.length_take, List.length_drop, List.length_set]); omega) ?_))) | (guard_target =~ (_ ∨ _) ∧ _; first | ((refine end_d [] (by rw [Tryd.results54, Lf.res1]) (ale_1 ?_) ?_) <;> (try (first | exact aleT | exact stq (by with_reducible rfl) | exact stq (by rfl) | exact stq (by simp (disch := omega) only [go_sem, seval, ↓reduceIte, hU]))))) | (refine hK _ _ ?_; clear hK K))
 | true =>
  have hpl := pfxP_len 128 7 ((rowB (encL l)).length : Int)
  rw [slP_t, List.map_append]
  refine acall_body Tryd.func54 rfl Tryd.ntmps54 (by simp) (fun hsc => ?_); simp only [Lf.enter, Nat.reduceAdd]; clear hsc
  have hU := True.intro
  repeat' (first | (guard_target =~ PWp _ _ _ _ _ _ _; first | (refine pwp_seq_k (fun K hK => ?_)) | (refine pwp_rg_then ?_) | (refine pwp_ret ?_) | ((refine pwp_cond_d (fun hcd => ?_) (fun hcd => ?_)) <;> (try simp only [hcP] at hcd) <;> (try exact cdT))) | (guard_target =~ rg _ _ _ _ _ _ _; first | (guard_target =~ rg _ _ _ [] _ _ _; first | (refine rg_end ?_)) | (refine rg_a rfl (h := ?_)) | (refine rg_x rfl (hy := rfl) (h := ?_)) | (refine rg_v rfl (h := ?_)) | (refine rg_s rfl ?_)) | (guard_target =~ SOp _ _ _ _ _ _; first | (guard_target =~ SOp _ _ ⟨_, .call ⟨.value (.func 53), _, _⟩, _, _, _, none⟩ _ _ _; first | (refine n_call (f := 53) rfl Tryd.call53 (h := AEq.sub' [] (hc := rput18_r _ _ _ aoT aoT aoT aoT aoT aoT aoT) (hq := ?_)))) | (guard_target =~ SOp _ _ ⟨_, .call ⟨.value (.func 79), _, _⟩, _, _, _, none⟩ _ _ _; first | (refine n_call (f := 79) rfl Tryd.call79 (h := AEq.pure' agT (rencode _ _ _ aoT) (hq := ?_)))) | (guard_target =~ SOp _ _ ⟨_, .call ⟨.builtin .append, _, _⟩, _, _, _, none⟩ _ _ _; first | (refine n_append_row rfl (he := by first | exact eo3 | exact eo4 | exact eo5 | exact eo9 | exact eo22 | exact eo28 | fail) (hK := ?_))) | (guard_target =~ SOp _ _ ⟨_, .convert _ _ _, _, _, _, none⟩ _ _ _; first | (refine n_bytes rfl (by first | (simp (disch := omega) only [go_sem, seval, ↓reduceIte, hU]; done) | rfl) sT (by first | (simp (disch := omega) only [go_sem, seval, ↓reduceIte, hU]; done) | rfl) sT (by (try simp only [List.length_map, List.length_append, List.length_cons, List.length_nil, List.length_replicate, List.length_take, List.length_drop, List.length_set]); omega) ?_))) | (guard_target =~ (_ ∨ _) ∧ _; first | ((refine end_d [] (by rw [Tryd.results54, Lf.res1]) (ale_1 ?_) ?_) <;> (try (first | exact aleT | exact stq (by with_reducible rfl) | exact stq (by rfl) | exact stq (by simp (disch := omega) only [go_sem, seval, ↓reduceIte, hU]))))) | (refine hK _ _ ?_; clear hK K))
attribute [local irreducible] slG cutB
end Go.Proofs.YtohbfcmmpaikhaaDoor

set_option linter.unusedVariables false
set_option linter.unusedSimpArgs false
namespace Go.Proofs.YtohbfcmmpaikhaaDoor
open Go Go.Lf Go.Proofs
attribute [local irreducible] Lf.rg Lf.ro Lf.PWp Lf.SOp Lf.ACall Lf.Scoped Lf.dg Lf.dw
set_option maxRecDepth 20000
set_option maxHeartbeats 4000000
attribute [local irreducible] pwI pfxP pgG huM bitsL rowB encL slG cutB
end Go.Proofs.YtohbfcmmpaikhaaDoor

set_option linter.unusedVariables false
set_option linter.unusedSimpArgs false
namespace Go.Proofs.YtohbfcmmpaikhaaDoor
open Go Go.Lf Go.Proofs
attribute [local irreducible] Lf.rg Lf.ro Lf.PWp Lf.SOp Lf.ACall Lf.Scoped Lf.dg Lf.dw
set_option maxRecDepth 20000
set_option maxHeartbeats 4000000
@[go_sem] theorem tl_glob {i : Nat} {r : List Operand} : tl (.global i :: r) = tl r := rfl
def kindM (x : Int) : Int := if 128 ≤ x then 1 else if 64 ≤ x then 2 else if 32 ≤ x then 5 else if 16 ≤ x then 4 else 3
def frI (k : Int) : Int := if k = 1 then 128 else if k = 2 then 64 else if k = 5 then 32 else if k = 4 then 16 else 0
def biI (k : Int) : Int := if k = 1 then 7 else if k = 2 then 6 else if k = 5 then 5 else 4
def txB (k : Int) : Bool := k == 2 || k == 3 || k == 4
def wiB (n : Int) : Bool := decide (0 ≤ n) && decide (n ≤ 2147483647)
def bM (x : Int) (k : Nat) : Int := if k ≤ 1 then 3 else if 128 ≤ x then 1 else if k = 2 then 3 else if 64 ≤ x then 2 else if k ≤ 4 then 3 else if k = 5 then (if 16 ≤ x then 4 else 3) else if 32 ≤ x then 5 else if 16 ≤ x then 4 else 3
attribute [local irreducible] bM kindM
theorem rbegin (k : Int) : AEq Tryd.prog 47 [i64 k] [] (.tu [i64 (frI k), i64 (biI k)]) [] := by
 unfold frI biI
 by_cases a : k = 1
 ·rw [if_pos a, if_pos a]
  refine acall_body Tryd.func47 rfl Tryd.ntmps47 (by simp) (fun hsc => ?_); simp only [Lf.enter, Nat.reduceAdd]; clear hsc
  have hU := True.intro
  repeat' (first | (guard_target =~ PWp _ _ _ _ _ _ _; first | (refine pwp_seq_k (fun K hK => ?_)) | (refine pwp_block ?_) | (refine pwp_rg_then ?_) | (refine pwp_ret ?_) | ((refine pwp_cond_d (fun hcd => ?_) (fun hcd => ?_)) <;> (try simp only [hcP] at hcd) <;> (try exact cdT))) | (guard_target =~ rg _ _ _ _ _ _ _; first | (guard_target =~ rg _ _ _ [] _ _ _; first | (refine rg_end ?_)) | (refine rg_a rfl (h := ?_)) | (refine rg_v rfl (h := ?_))) | (guard_target =~ (_ ∨ _) ∧ _; first | ((refine end_d [] (by rw [Tryd.results47, Lf.res2]) (ale_2 ?_ ?_) ?_) <;> (try (first | exact aleT | exact stq (by with_reducible rfl) | exact stq (by rfl) | exact stq (by simp (disch := omega) only [go_sem, seval, ↓reduceIte, hU]))))) | (refine hK _ _ ?_; clear hK K))
 rw [if_neg a, if_neg a]
 by_cases b : k = 2
 ·rw [if_pos b, if_pos b]
  refine acall_body Tryd.func47 rfl Tryd.ntmps47 (by simp) (fun hsc => ?_); simp only [Lf.enter, Nat.reduceAdd]; clear hsc
  have hU := True.intro
  repeat' (first | (guard_target =~ PWp _ _ _ _ _ _ _; first | (refine pwp_seq_k (fun K hK => ?_)) | (refine pwp_block ?_) | (refine pwp_rg_then ?_) | (refine pwp_ret ?_) | ((refine pwp_cond_d (fun hcd => ?_) (fun hcd => ?_)) <;> (try simp only [hcP] at hcd) <;> (try exact cdT))) | (guard_target =~ rg _ _ _ _ _ _ _; first | (guard_target =~ rg _ _ _ [] _ _ _; first | (refine rg_end ?_)) | (refine rg_a rfl (h := ?_)) | (refine rg_v rfl (h := ?_))) | (guard_target =~ (_ ∨ _) ∧ _; first | ((refine end_d [] (by rw [Tryd.results47, Lf.res2]) (ale_2 ?_ ?_) ?_) <;> (try (first | exact aleT | exact stq (by with_reducible rfl) | exact stq (by rfl) | exact stq (by simp (disch := omega) only [go_sem, seval, ↓reduceIte, hU]))))) | (refine hK _ _ ?_; clear hK K))
 rw [if_neg b, if_neg b]
 by_cases c : k = 5
 ·rw [if_pos c, if_pos c]
  refine acall_body Tryd.func47 rfl Tryd.ntmps47 (by simp) (fun hsc => ?_); simp only [Lf.enter, Nat.reduceAdd]; clear hsc
  have hU := True.intro
  repeat' (first | (guard_target =~ PWp _ _ _ _ _ _ _; first | (refine pwp_seq_k (fun K hK => ?_)) | (refine pwp_block ?_) | (refine pwp_rg_then ?_) | (refine pwp_ret ?_) | ((refine pwp_cond_d (fun hcd => ?_) (fun hcd => ?_)) <;> (try simp only [hcP] at hcd) <;> (try exact cdT))) | (guard_target =~ rg _ _ _ _ _ _ _; first | (guard_target =~ rg _ _ _ [] _ _ _; first | (refine rg_end ?_)) | (refine rg_a rfl (h := ?_)) | (refine rg_v rfl (h := ?_))) | (guard_target =~ (_ ∨ _) ∧ _; first | ((refine end_d [] (by rw [Tryd.results47, Lf.res2]) (ale_2 ?_ ?_) ?_) <;> (try (first | exact aleT | exact stq (by with_reducible rfl) | exact stq (by rfl) | exact stq (by simp (disch := omega) only [go_sem, seval, ↓reduceIte, hU]))))) | (refine hK _ _ ?_; clear hK K))
 rw [if_neg c, if_neg c]
 by_cases d : k = 4
 ·rw [if_pos d]
  refine acall_body Tryd.func47 rfl Tryd.ntmps47 (by simp) (fun hsc => ?_); simp only [Lf.enter, Nat.reduceAdd]; clear hsc
  have hU := True.intro
  repeat' (first | (guard_target =~ PWp _ _ _ _ _ _ _; first | (refine pwp_seq_k (fun K hK => ?_)) | (refine pwp_block ?_) | (refine pwp_rg_then ?_) | (refine pwp_ret ?_) | ((refine pwp_cond_d (fun hcd => ?_) (fun hcd => ?_)) <;> (try simp only [hcP] at hcd) <;> (try exact cdT))) | (guard_target =~ rg _ _ _ _ _ _ _; first | (guard_target =~ rg _ _ _ [] _ _ _; first | (refine rg_end ?_)) | (refine rg_a rfl (h := ?_)) | (refine rg_v rfl (h := ?_))) | (guard_target =~ (_ ∨ _) ∧ _; first | ((refine end_d [] (by rw [Tryd.results47, Lf.res2]) (ale_2 ?_ ?_) ?_) <;> (try (first | exact aleT | exact stq (by with_reducible rfl) | exact stq (by rfl) | exact stq (by simp (disch := omega) only [go_sem, seval, ↓reduceIte, hU]))))) | (refine hK _ _ ?_; clear hK K))
 ·rw [if_neg d]
  refine acall_body Tryd.func47 rfl Tryd.ntmps47 (by simp) (fun hsc => ?_); simp only [Lf.enter, Nat.reduceAdd]; clear hsc
  have hU := True.intro
  repeat' (first | (guard_target =~ PWp _ _ _ _ _ _ _; first | (refine pwp_seq_k (fun K hK => ?_)) | (refine pwp_block ?_) | (refine pwp_rg_then ?_) | (refine pwp_ret ?_) | (refine pwp_skip ?_) | ((refine pwp_cond_d (fun hcd => ?_) (fun hcd => ?_)) <;> (try simp only [hcP] at hcd) <;> (try exact cdT))) | (guard_target =~ rg _ _ _ _ _ _ _; first | (guard_target =~ rg _ _ _ [] _ _ _; first | (refine rg_end ?_)) | (refine rg_a rfl (h := ?_)) | (refine rg_v rfl (h := ?_))) | (guard_target =~ (_ ∨ _) ∧ _; first | ((refine end_d [] (by rw [Tryd.results47, Lf.res2]) (ale_2 ?_ ?_) ?_) <;> (try (first | exact aleT | exact stq (by with_reducible rfl) | exact stq (by rfl) | exact stq (by simp (disch := omega) only [go_sem, seval, ↓reduceIte, hU]))))) | (refine hK _ _ ?_; clear hK K))
theorem ptexts (k : Int) : AEq Tryd.prog 44 [i64 k] [] (bl (txB k)) [] := by
 refine acall_body Tryd.func44 rfl Tryd.ntmps44 (by simp) (fun hsc => ?_); simp only [Lf.enter, Nat.reduceAdd]; clear hsc
 have hU := True.intro
 repeat' (first | (guard_target =~ PWp _ _ _ _ _ _ _; first | (refine pwp_seq_k (fun K hK => ?_)) | (refine pwp_rg_then ?_) | (refine pwp_ret ?_)) | (guard_target =~ rg _ _ _ _ _ _ _; first | (guard_target =~ rg _ _ _ (⟨_, .move _, _, _, _, some _⟩ :: _) _ _ _; first | (refine rg_gq rfl (h := ?_))) | (guard_target =~ rg _ _ _ (⟨_, .binOp _ _ _ _ _, _, _, _, some _⟩ :: _) _ _ _; first | (refine rg_gq rfl (h := ?_))) | (guard_target =~ rg _ _ _ [] _ _ _; first | (refine rg_end ?_)) | (refine rg_a rfl (h := ?_)) | (refine rg_v rfl (h := ?_))) | (guard_target =~ (_ ∨ _) ∧ _; first | ((refine end_d [] (by rw [Tryd.results44, Lf.res1]) (ale_1 ?_) ?_) <;> (try (first | exact aleT | exact stq (by with_reducible rfl) | exact stq (by rfl) | exact stq (by simp (disch := omega) only [go_sem, seval, ↓reduceIte, hU]))))) | (refine hK _ _ ?_; clear hK K))
 all_goals exact ale_eq rfl
theorem pwithin (n : Int) : AEq Tryd.prog 52 [i64 n] [] (bl (wiB n)) [] := by
 refine acall_body Tryd.func52 rfl Tryd.ntmps52 (by simp) (fun hsc => ?_); simp only [Lf.enter, Nat.reduceAdd]; clear hsc
 have hU := True.intro
 repeat' (first | (guard_target =~ PWp _ _ _ _ _ _ _; first | (refine pwp_seq_k (fun K hK => ?_)) | (refine pwp_rg_then ?_) | (refine pwp_ret ?_)) | (guard_target =~ rg _ _ _ _ _ _ _; first | (guard_target =~ rg _ _ _ (⟨_, .move _, _, _, _, some _⟩ :: _) _ _ _; first | (refine rg_gq rfl (h := ?_))) | (guard_target =~ rg _ _ _ (⟨_, .binOp _ _ _ _ _, _, _, _, some _⟩ :: _) _ _ _; first | (refine rg_gq rfl (h := ?_))) | (guard_target =~ rg _ _ _ [] _ _ _; first | (refine rg_end ?_)) | (refine rg_a rfl (h := ?_)) | (refine rg_v rfl (h := ?_))) | (guard_target =~ (_ ∨ _) ∧ _; first | ((refine end_d [] (by rw [Tryd.results52, Lf.res1]) (ale_1 ?_) ?_) <;> (try (first | exact aleT | exact stq (by with_reducible rfl) | exact stq (by rfl) | exact stq (by simp (disch := omega) only [go_sem, seval, ↓reduceIte, hU]))))) | (refine hK _ _ ?_; clear hK K))
 all_goals exact ale_eq rfl
end Go.Proofs.YtohbfcmmpaikhaaDoor

set_option linter.unusedVariables false
set_option linter.unusedSimpArgs false
namespace Go.Proofs.YtohbfcmmpaikhaaDoor
open Go Go.Lf Go.Proofs
attribute [local irreducible] Lf.rg Lf.ro Lf.PWp Lf.SOp Lf.ACall Lf.Scoped Lf.dg Lf.dw
set_option maxRecDepth 20000
set_option maxHeartbeats 4000000
theorem str_nil (l : List UInt8) : ((⟨l.toArray⟩ : ByteArray).toList == (⟨#[]⟩ : ByteArray).toList) = decide (l = []) := by
 rw [ByteArray.toList_eq, ByteArray.toList_eq]
 cases l <;> simp
def RP (k i : Int) (nm : List UInt8) (ns : Bool) (vl : List UInt8) (vs : Bool) (sz : Int) : Prop :=
 (1 ≤ k ∧ k ≤ 5) ∧ (0 ≤ i ∧ i ≤ 2147483647) ∧ (0 ≤ sz ∧ sz ≤ 2147483647) ∧ ((k = 5 ∧ i = 0 ∧ (nm = [] ∧ ns = false) ∧ (vl = [] ∧ vs = false)) ∨ (k = 1 ∧ sz = 0 ∧ 0 < i ∧ (nm = [] ∧ ns = false) ∧ (vl = [] ∧ vs = false)) ∨ (k ≠ 5 ∧ k ≠ 1 ∧ sz = 0 ∧ (i = 0 ∨ (nm = [] ∧ ns = false))))
instance (k i : Int) (nm : List UInt8) (ns : Bool) (vl : List UInt8) (vs : Bool) (sz : Int) : Decidable (RP k i nm ns vl vs sz) := by unfold RP; exact inferInstance
def rOk (k i : Int) (nm : List UInt8) (ns : Bool) (vl : List UInt8) (vs : Bool) (sz : Int) : Bool := decide (RP k i nm ns vl vs sz)
theorem pright (k i : Int) (nm : List UInt8) (ns : Bool) (vl : List UInt8) (vs : Bool) (sz : Int) : AEq Tryd.prog 17 [.ag [i64 k, i64 i, .lit (.string ⟨nm.toArray⟩), bl ns, .lit (.string ⟨vl.toArray⟩), bl vs, i64 sz]] [] (bl (rOk k i nm ns vl vs sz)) [] := by
 have hn := str_nil nm
 have hv := str_nil vl
 have hwi : wiB i = (decide (0 ≤ i) && decide (i ≤ 2147483647)) := rfl
 have hwz : wiB sz = (decide (0 ≤ sz) && decide (sz ≤ 2147483647)) := rfl
 refine acall_body Tryd.func17 rfl Tryd.ntmps17 (by simp) (fun hsc => ?_); simp only [Lf.enter, Nat.reduceAdd]; clear hsc
 have hU := And.intro @hn ( And.intro @hv ( And.intro @hwi (@hwz)))
 repeat' (first | (guard_target =~ PWp _ _ _ _ _ _ _; first | (refine pwp_seq_k (fun K hK => ?_)) | (refine pwp_block ?_) | (refine pwp_rg_then ?_) | (refine pwp_ret ?_) | (refine pwp_skip ?_) | ((refine pwp_cond_d (fun hcd => ?_) (fun hcd => ?_)) <;> (try simp only [hcP] at hcd) <;> (try exact cdT))) | (guard_target =~ rg _ _ _ _ _ _ _; first | (guard_target =~ rg _ _ _ (⟨_, .load _ _, _, _, _, some _⟩ :: _) _ _ _; first | (refine rg_gtp rfl (h := ?_)) | (refine rg_gf rfl (hn := rfl) (h := ?_)) | (refine rg_gq rfl (h := ?_)) | (refine rg_gt rfl (h := ?_)) | ((first | refine rg_case (by simp only [go_sem, seval, ↓reduceIte, hU] <;> rfl) (fun hcd => ?_) (fun hcd => ?_) | refine rg_case2 (by simp only [go_sem, seval, ↓reduceIte, hU] <;> rfl) (fun hcd => ?_) (fun hcd => ?_)) <;> (try simp only [hcd]) <;> (try (simp only [Bool.not_eq_true', Bool.not_eq_false'] at hcd; try simp only [hcd])) <;> (refine rg_w (Γ2 := _) (by repeat' (first | exact envw_nil | apply envw_cons | exact opens_t | exact opens_f | exact opens_r)) ?_) <;> (try simp only [hcP] at hcd) <;> (try exact cdT))) | (guard_target =~ rg _ _ _ (⟨_, .fieldAddr _ _ _, _, _, _, some _⟩ :: _) _ _ _; first | (refine rg_gtp rfl (h := ?_)) | (refine rg_gf rfl (hn := rfl) (h := ?_)) | (refine rg_gq rfl (h := ?_)) | (refine rg_gt rfl (h := ?_)) | ((first | refine rg_case (by simp only [go_sem, seval, ↓reduceIte, hU] <;> rfl) (fun hcd => ?_) (fun hcd => ?_) | refine rg_case2 (by simp only [go_sem, seval, ↓reduceIte, hU] <;> rfl) (fun hcd => ?_) (fun hcd => ?_)) <;> (try simp only [hcd]) <;> (try (simp only [Bool.not_eq_true', Bool.not_eq_false'] at hcd; try simp only [hcd])) <;> (refine rg_w (Γ2 := _) (by repeat' (first | exact envw_nil | apply envw_cons | exact opens_t | exact opens_f | exact opens_r)) ?_) <;> (try simp only [hcP] at hcd) <;> (try exact cdT))) | (guard_target =~ rg _ _ _ (⟨_, .binOp _ _ _ _ _, _, _, _, some _⟩ :: _) _ _ _; first | (refine rg_gtp rfl (h := ?_)) | (refine rg_gf rfl (hn := rfl) (h := ?_)) | (refine rg_gq rfl (h := ?_)) | (refine rg_gt rfl (h := ?_)) | ((first | refine rg_case (by simp only [go_sem, seval, ↓reduceIte, hU] <;> rfl) (fun hcd => ?_) (fun hcd => ?_) | refine rg_case2 (by simp only [go_sem, seval, ↓reduceIte, hU] <;> rfl) (fun hcd => ?_) (fun hcd => ?_)) <;> (try simp only [hcd]) <;> (try (simp only [Bool.not_eq_true', Bool.not_eq_false'] at hcd; try simp only [hcd])) <;> (refine rg_w (Γ2 := _) (by repeat' (first | exact envw_nil | apply envw_cons | exact opens_t | exact opens_f | exact opens_r)) ?_) <;> (try simp only [hcP] at hcd) <;> (try exact cdT))) | (guard_target =~ rg _ _ _ (⟨_, .call ⟨.value (.func 52), _, _⟩, _, _, _, some _⟩ :: _) _ _ _; first | (refine rg_gtp rfl (h := ?_)) | (refine rg_gf rfl (hn := rfl) (h := ?_)) | (refine rg_gq rfl (h := ?_)) | (refine rg_gt rfl (h := ?_)) | ((first | refine rg_case (by simp only [go_sem, seval, ↓reduceIte, hU] <;> rfl) (fun hcd => ?_) (fun hcd => ?_) | refine rg_case2 (by simp only [go_sem, seval, ↓reduceIte, hU] <;> rfl) (fun hcd => ?_) (fun hcd => ?_)) <;> (try simp only [hcd]) <;> (try (simp only [Bool.not_eq_true', Bool.not_eq_false'] at hcd; try simp only [hcd])) <;> (refine rg_w (Γ2 := _) (by repeat' (first | exact envw_nil | apply envw_cons | exact opens_t | exact opens_f | exact opens_r)) ?_) <;> (try simp only [hcP] at hcd) <;> (try exact cdT))) | (guard_target =~ rg _ _ _ (⟨_, .unOp _ _ _, _, _, _, some _⟩ :: _) _ _ _; first | (refine rg_gtp rfl (h := ?_)) | (refine rg_gf rfl (hn := rfl) (h := ?_)) | (refine rg_gq rfl (h := ?_)) | (refine rg_gt rfl (h := ?_)) | ((first | refine rg_case (by simp only [go_sem, seval, ↓reduceIte, hU] <;> rfl) (fun hcd => ?_) (fun hcd => ?_) | refine rg_case2 (by simp only [go_sem, seval, ↓reduceIte, hU] <;> rfl) (fun hcd => ?_) (fun hcd => ?_)) <;> (try simp only [hcd]) <;> (try (simp only [Bool.not_eq_true', Bool.not_eq_false'] at hcd; try simp only [hcd])) <;> (refine rg_w (Γ2 := _) (by repeat' (first | exact envw_nil | apply envw_cons | exact opens_t | exact opens_f | exact opens_r)) ?_) <;> (try simp only [hcP] at hcd) <;> (try exact cdT))) | (guard_target =~ rg _ _ _ [] _ _ _; first | (refine rg_end ?_)) | (refine rg_a rfl (h := ?_)) | (refine rg_v rfl (h := ?_)) | (refine rg_s rfl ?_)) | (guard_target =~ SOp _ _ _ _ _ _; first | (guard_target =~ SOp _ _ ⟨_, .binOp _ _ _ _ _, _, _, _, none⟩ _ _ _; first | (refine n_eqag (ne := false) rfl (by first | exact eg25 | exact eg27 | fail) (hc := rfl) (hK := ?_))) | (guard_target =~ SOp _ _ ⟨_, .binOp _ _ _ _ _, _, _, _, some _⟩ _ _ _; first | (refine n_eqag (ne := false) rfl (by first | exact eg25 | exact eg27 | fail) (hc := rfl) (hK := ?_))) | (guard_target =~ SOp _ _ ⟨_, .call ⟨.value (.func 52), _, _⟩, _, _, _, some _⟩ _ _ _; first | (refine n_call (f := 52) rfl Tryd.call52 (h := AEq.pure' agT (pwithin _) (hq := ?_)))) | (guard_target =~ SOp _ _ ⟨_, .box _ _, _, _, _, none⟩ _ _ _; first | (refine n_box rfl (hK := ?_))) | (guard_target =~ SOp _ _ ⟨_, .alloc _, _, _, _, none⟩ _ _ _; first | (refine n_alloc rfl (by first | exact zv3 | exact zv4 | exact zv9 | exact zv25 | exact zv27 | fail) (hK := ?_)))) | (guard_target =~ (_ ∨ _) ∧ _; first | ((refine end_d [] (by rw [Tryd.results17, Lf.res1]) (ale_1 ?_) ?_) <;> (try (first | exact aleT | exact stq (by with_reducible rfl) | exact stq (by rfl) | exact stq (by simp (disch := omega) only [go_sem, seval, ↓reduceIte, hU]))))) | (refine hK _ _ ?_; clear hK K))
 all_goals first | exact ale_bl (by unfold rOk RP; grind) | trace_state
end Go.Proofs.YtohbfcmmpaikhaaDoor

