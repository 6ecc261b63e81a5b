import Derived.Test.YtdalcgfnlbofdaaZ10
import Derived.Test.YtdalcgfnlbofdaaZ11
import Derived.Test.YtdalcgfnlbofdaaZ01
import Derived.Test.YtdalcgfnlbofdaaLc
import Derived.Test.YtdalcgfnlbofdaaLb
set_option linter.unusedVariables false
set_option linter.unusedSimpArgs false
namespace Go.Proofs.Ytdalcgfnlbofdaa
open Go Go.Lf Go.Proofs
attribute [local irreducible] Lf.rg Lf.ro Lf.PWp Lf.SOp Lf.ACall Lf.Scoped Lf.dg Lf.dw
set_option maxRecDepth 20000
set_option maxHeartbeats 4000000
def preB : List UInt8 := [80, 82, 73, 32, 42, 32, 72, 84, 84, 80, 47, 50, 46, 48, 13, 10, 13, 10, 83, 77, 13, 10, 13, 10]
theorem dpre : AEq Try.prog 17 [] [] (.sl false false (preB.map byteA)) [] := by
 refine acall_body Try.func17 rfl Try.ntmps17 (by simp) (fun hsc => ?_); simp only [Lf.enter, Nat.reduceAdd]; clear hsc
 have hU := True.intro
 repeat' (first | (guard_target =~ PWp _ _ _ _ _ _ _; first | (refine pwp_seq_k (fun K hK => ?_)) | (refine pwp_rg_then ?_) | (refine pwp_ret ?_)) | (guard_target =~ rg _ _ _ _ _ _ _; first | (guard_target =~ rg _ _ _ [] _ _ _; first | (refine rg_end ?_)) | (refine rg_a rfl (h := ?_)) | (refine rg_s rfl ?_)) | (guard_target =~ SOp _ _ _ _ _ _; first | (guard_target =~ SOp _ _ ⟨_, .call ⟨.builtin .append, _, _⟩, _, _, _, none⟩ _ _ _; first | (refine n_append_str (l := preB) rfl sT (by first | (simp (disch := omega) only [go_sem, seval, ↓reduceIte, hU]; done) | rfl) (by first | exact eo5 | fail) (by rfl) (by decide) (by decide) (by decide) (by rfl) sT ?_))) | (guard_target =~ (_ ∨ _) ∧ _; first | ((refine end_d [] (by rw [Try.results17, Lf.res1]) (ale_1 ?_) ?_) <;> (try (first | exact aleT | exact stq (by with_reducible rfl) | exact stq (by rfl) | exact stq (by simp (disch := omega) only [go_sem, seval, ↓reduceIte, hU]))))) | (refine hK _ _ ?_; clear hK K))
def opF (sd : Int) : List Fr := if sd = 0 then [⟨false, 0, -1, 0, 0, false, preB⟩, ⟨true, 0, 4, 0, 0, false, []⟩] else if sd = 1 then [⟨true, 1, 4, 0, 0, false, []⟩] else []
def opF0 : List Fr := [⟨false, 0, -1, 0, 0, false, preB⟩, ⟨true, 0, 4, 0, 0, false, []⟩]
def opF1 : List Fr := [⟨true, 1, 4, 0, 0, false, []⟩]
theorem opF_0 : opF 0 = opF0 := rfl
theorem opF_1 : opF 1 = opF1 := rfl
theorem dopen (sd : Int) : AEq Try.prog 9 [i64 sd] [] (.sl false false ((opF sd).map frA)) [] := by
 by_cases h0 : sd = 0
 ·subst h0
  rw [opF_0]
  refine acall_body Try.func9 rfl Try.ntmps9 (by simp) (fun hsc => ?_); simp only [Lf.enter, Nat.reduceAdd]; clear hsc
  have hU := True.intro
  repeat' (first | (guard_target =~ PWp _ _ _ _ _ _ _; first | (refine pwp_draw_tail (id := 4) 3 mixed (by kernel_rfl) (by kernel_rfl) (by kernel_rfl) rfl rfl ?_) | (refine pwp_seq_k (fun K hK => ?_)) | (refine pwp_block ?_) | (refine pwp_rg_then ?_) | (refine pwp_ret ?_) | ((refine pwp_cond_d (fun hcd => ?_) (fun hcd => ?_)) <;> (try simp only [hcP] at hcd) <;> (try exact cdT))) | (guard_target =~ rg _ _ _ _ _ _ _; first | (guard_target =~ rg _ _ _ [] _ _ _; first | (refine rg_end ?_)) | (refine rg_a rfl (h := ?_)) | (refine rg_v rfl (h := ?_)) | (refine rg_s rfl ?_) | (refine rg_n rfl ?_)) | (guard_target =~ SOp _ _ _ _ _ _; first | (guard_target =~ SOp _ _ ⟨_, .buildSlice _ _ _, _, _, _, none⟩ _ _ _; first | (refine n_lit (xs := List.map (frA) (opF0)) rfl (he := by first | exact eo3 | exact eo4 | exact eo5 | exact eo22 | exact eo28 | exact eo30 | fail) (hc := by first | rfl | assumption | (simp (disch := omega) only [go_sem, seval, ↓reduceIte, hU]; rfl)) (hK := ?_))) | (guard_target =~ SOp _ _ ⟨_, .build _ _, _, _, _, none⟩ _ _ _; first | (refine n_build rfl (by first | exact bd30 | fail) (hK := ?_))) | (guard_target =~ SOp _ _ ⟨_, .alloc _, _, _, _, none⟩ _ _ _; first | (refine n_alloc rfl (by first | exact zv3 | exact zv4 | exact zv5 | exact zv22 | exact zv28 | exact zv30 | fail) (hK := ?_))) | (guard_target =~ SOp _ _ ⟨_, .store _ _ _, _, _, _, none⟩ _ _ _; first | (refine n_store rfl (hK := ?_)))) | (guard_target =~ dg _ _ _ _ _ _ _; first | (guard_target =~ dg _ _ _ (⟨_, .move _, _, _, _, none⟩ :: _) _ _ _; first | (refine dg_v rfl (hk := ?_))) | (guard_target =~ dg _ _ _ (⟨_, .binOp _ _ _ _ _, _, _, _, none⟩ :: _) _ _ _; first | (refine dg_v rfl (hk := ?_))) | (guard_target =~ dg _ _ _ (⟨_, .build _ _, _, _, _, none⟩ :: _) _ _ _; first | (refine dg_c (x := _) (h := ro_s (h := n_build rfl (by first | exact bd30 | fail) (hK := ro_end ⟨rfl, rfl⟩))) (hk := ?_))) | (guard_target =~ dg _ _ _ (⟨_, .load _ _, _, _, _, none⟩ :: _) _ _ _; first | (refine dg_v rfl (hk := ?_))) | (guard_target =~ dg _ _ _ (⟨_, .call ⟨.value (.func 17), _, _⟩, _, _, _, none⟩ :: _) _ _ _; first | (refine dg_c (x := _) (h := ro_s (h := n_call (f := 17) rfl Try.call17 (h := AEq.pure' agT dpre (hq := ro_end ⟨rfl, rfl⟩)))) (hk := ?_))) | (guard_target =~ dg _ _ _ [] _ _ _; first | (refine dg_nil ?_))) | (guard_target =~ (_ ∨ _) ∧ _; first | ((refine end_d [] (by rw [Try.results9, Lf.res1]) (ale_1 ?_) ?_) <;> (try (first | exact aleT | exact stq (by with_reducible rfl) | exact stq (by rfl) | exact stq (by simp (disch := omega) only [go_sem, seval, ↓reduceIte, hU]))))) | (refine hK _ _ ?_; clear hK K))
 ·by_cases h1 : sd = 1
  ·subst h1
   rw [opF_1]
   refine acall_body Try.func9 rfl Try.ntmps9 (by simp) (fun hsc => ?_); simp only [Lf.enter, Nat.reduceAdd]; clear hsc
   have hU := True.intro
   repeat' (first | (guard_target =~ PWp _ _ _ _ _ _ _; first | (refine pwp_seq_k (fun K hK => ?_)) | (refine pwp_block ?_) | (refine pwp_rg_then ?_) | (refine pwp_ret ?_) | ((refine pwp_cond_d (fun hcd => ?_) (fun hcd => ?_)) <;> (try simp only [hcP] at hcd) <;> (try exact cdT))) | (guard_target =~ rg _ _ _ _ _ _ _; first | (guard_target =~ rg _ _ _ [] _ _ _; first | (refine rg_end ?_)) | (refine rg_a rfl (h := ?_)) | (refine rg_v rfl (h := ?_)) | (refine rg_s rfl ?_) | (refine rg_n rfl ?_)) | (guard_target =~ SOp _ _ _ _ _ _; first | (guard_target =~ SOp _ _ ⟨_, .buildSlice _ _ _, _, _, _, none⟩ _ _ _; first | (refine n_lit (xs := List.map (frA) (opF1)) rfl (he := by first | exact eo3 | exact eo4 | exact eo5 | exact eo22 | exact eo28 | exact eo30 | fail) (hc := by first | rfl | assumption | (simp (disch := omega) only [go_sem, seval, ↓reduceIte, hU]; rfl)) (hK := ?_))) | (guard_target =~ SOp _ _ ⟨_, .build _ _, _, _, _, none⟩ _ _ _; first | (refine n_build rfl (by first | exact bd30 | fail) (hK := ?_))) | (guard_target =~ SOp _ _ ⟨_, .alloc _, _, _, _, none⟩ _ _ _; first | (refine n_alloc rfl (by first | exact zv3 | exact zv4 | exact zv5 | exact zv22 | exact zv28 | exact zv30 | fail) (hK := ?_))) | (guard_target =~ SOp _ _ ⟨_, .store _ _ _, _, _, _, none⟩ _ _ _; first | (refine n_store rfl (hK := ?_)))) | (guard_target =~ (_ ∨ _) ∧ _; first | ((refine end_d [] (by rw [Try.results9, Lf.res1]) (ale_1 ?_) ?_) <;> (try (first | exact aleT | exact stq (by with_reducible rfl) | exact stq (by rfl) | exact stq (by simp (disch := omega) only [go_sem, seval, ↓reduceIte, hU]))))) | (refine hK _ _ ?_; clear hK K))
  ·have h2 : opF sd = [] := by unfold opF; rw [if_neg h0, if_neg h1]
   rw [h2]
   refine acall_body Try.func9 rfl Try.ntmps9 (by simp) (fun hsc => ?_); simp only [Lf.enter, Nat.reduceAdd]; clear hsc
   have hU := True.intro
   repeat' (first | (guard_target =~ PWp _ _ _ _ _ _ _; first | (refine pwp_seq_k (fun K hK => ?_)) | (refine pwp_block ?_) | (refine pwp_rg_then ?_) | (refine pwp_ret ?_) | (refine pwp_skip ?_) | ((refine pwp_cond_d (fun hcd => ?_) (fun hcd => ?_)) <;> (try simp only [hcP] at hcd) <;> (try exact cdT))) | (guard_target =~ rg _ _ _ _ _ _ _; first | (guard_target =~ rg _ _ _ [] _ _ _; first | (refine rg_end ?_)) | (refine rg_a rfl (h := ?_)) | (refine rg_v rfl (h := ?_)) | (refine rg_s rfl ?_) | (refine rg_n rfl ?_)) | (guard_target =~ SOp _ _ _ _ _ _; first | (guard_target =~ SOp _ _ ⟨_, .build _ _, _, _, _, none⟩ _ _ _; first | (refine n_build rfl (by first | exact bd30 | fail) (hK := ?_))) | (guard_target =~ SOp _ _ ⟨_, .alloc _, _, _, _, none⟩ _ _ _; first | (refine n_alloc rfl (by first | exact zv3 | exact zv4 | exact zv5 | exact zv22 | exact zv28 | exact zv30 | fail) (hK := ?_))) | (guard_target =~ SOp _ _ ⟨_, .store _ _ _, _, _, _, none⟩ _ _ _; first | (refine n_store rfl (hK := ?_)))) | (guard_target =~ (_ ∨ _) ∧ _; first | ((refine end_d [] (by rw [Try.results9, Lf.res1]) (ale_1 ?_) ?_) <;> (try (first | exact aleT | exact stq (by with_reducible rfl) | exact stq (by rfl) | exact stq (by simp (disch := omega) only [go_sem, seval, ↓reduceIte, hU]))))) | (refine hK _ _ ?_; clear hK K))
def lD3 : List Fr := [⟨true, 1, 4, 0, 0, false, []⟩, ⟨true, 1, 4, 0, 0, false, []⟩, ⟨true, 0, 4, 1, 0, false, []⟩]
def lD1 : List Fr := [⟨true, 0, 4, 1, 0, false, []⟩]
theorem lD_is : dutF 0 (seeF 0 lD3) = lD1 := by kernel_rfl
theorem dalive : AEq Try.prog 5 [] [] (bl true) [] := by
 have hR := lD_is
 have hn : lD1.length ≤ 1000000000 := by decide
 have hb : ∀ x ∈ lD1, x.b.length ≤ 1000000000 := by decide
 have hn3 : lD3.length ≤ 100 := by decide
 have hb3 : ∀ x ∈ lD3, x.b.length ≤ 100000 := by decide
 have hs : (0 : Int) = 0 ∨ (0 : Int) = 1 := .inl rfl
 have hab : lD1.map rqF = lD1.map rqF := rfl
 have hO : (opF 0).length = 2 := rfl
 refine acall_body Try.func5 rfl Try.ntmps5 (by simp) (fun hsc => ?_); simp only [Lf.enter, Nat.reduceAdd]; clear hsc
 have hU := And.intro @hR (@hO)
 repeat' (first | (guard_target =~ PWp _ _ _ _ _ _ _; first | (refine pwp_seq_k (fun K hK => ?_)) | (refine pwp_rg_then ?_) | (refine pwp_ret ?_)) | (guard_target =~ rg _ _ _ _ _ _ _; first | (guard_target =~ rg _ _ _ (⟨_, .call ⟨.builtin .len, _, _⟩, _, _, _, some _⟩ :: _) _ _ _; first | (refine rg_gtp rfl (h := ?_)) | (refine rg_gt rfl (h := ?_))) | (guard_target =~ rg _ _ _ (⟨_, .call ⟨.value (.func 9), _, _⟩, _, _, _, some _⟩ :: _) _ _ _; first | (refine rg_gtp rfl (h := ?_)) | (refine rg_gt rfl (h := ?_))) | (guard_target =~ rg _ _ _ (⟨_, .binOp _ _ _ _ _, _, _, _, some _⟩ :: _) _ _ _; first | (refine rg_gtp rfl (h := ?_)) | (refine rg_gt rfl (h := ?_))) | (guard_target =~ rg _ _ _ [] _ _ _; first | (refine rg_end ?_)) | (refine rg_a rfl (h := ?_)) | (refine rg_v rfl (h := ?_)) | (refine rg_s rfl ?_)) | (guard_target =~ SOp _ _ _ _ _ _; first | (guard_target =~ SOp _ _ ⟨_, .build _ _, _, _, _, none⟩ _ _ _; first | (refine n_build rfl (by first | exact bd30 | fail) (hK := ?_))) | (guard_target =~ SOp _ _ ⟨_, .buildSlice _ _ _, _, _, _, none⟩ _ _ _; first | (refine n_lit (xs := List.map (frA) (lD3)) rfl (he := by first | exact eo3 | exact eo4 | exact eo5 | exact eo22 | exact eo28 | exact eo30 | fail) (hc := by first | rfl | assumption | (simp (disch := omega) only [go_sem, seval, ↓reduceIte, hU]; rfl)) (hK := ?_)) | (refine n_lit (xs := List.map (frA) (lD1)) rfl (he := by first | exact eo3 | exact eo4 | exact eo5 | exact eo22 | exact eo28 | exact eo30 | fail) (hc := by first | rfl | assumption | (simp (disch := omega) only [go_sem, seval, ↓reduceIte, hU]; rfl)) (hK := ?_))) | (guard_target =~ SOp _ _ ⟨_, .call ⟨.value (.func 6), _, _⟩, _, _, _, none⟩ _ _ _; first | (refine n_call (f := 6) rfl Try.call6 (h := AEq.pure' agT (dduties _ _ _ _ (by assumption) (by assumption) (by assumption)) (hq := ?_)))) | (guard_target =~ SOp _ _ ⟨_, .call ⟨.value (.func 7), _, _⟩, _, _, _, none⟩ _ _ _; first | (refine n_call (f := 7) rfl Try.call7 (h := AEq.pure' agT (rfall _ _ _ _ _ _ (by assumption) (by assumption) (by assumption)) (hq := ?_)))) | (guard_target =~ SOp _ _ ⟨_, .call ⟨.value (.func 9), _, _⟩, _, _, _, some _⟩ _ _ _; first | (refine n_call (f := 9) rfl Try.call9 (h := AEq.pure' agT (dopen _) (hq := ?_))))) | (guard_target =~ (_ ∨ _) ∧ _; first | ((refine end_d [] (by rw [Try.results5, Lf.res1]) (ale_1 ?_) ?_) <;> (try (first | exact aleT | exact stq (by with_reducible rfl) | exact stq (by rfl) | exact stq (by simp (disch := omega) only [go_sem, seval, ↓reduceIte, hU]))))) | (refine hK _ _ ?_; clear hK K))
theorem law_dduties (sd : Int) (f : Bool) (l : List Fr) (hl : l.length ≤ 9223372036854775807) (hx : ∀ x ∈ l, x.b.length ≤ 9223372036854775807) : AEq Try.prog 3 [i64 sd, .sl f false (l.map frA)] [] (bl true) [] := by
 cases hL : larF l with
 | true =>
  refine acall_body Try.func3 rfl Try.ntmps3 (by simp) (fun hsc => ?_); simp only [Lf.enter, Nat.reduceAdd]; clear hsc
  have hU := @hL
  repeat' (first | (guard_target =~ PWp _ _ _ _ _ _ _; first | (refine pwp_seq_k (fun K hK => ?_)) | (refine pwp_rg_then ?_) | (refine pwp_ret ?_) | ((refine pwp_cond_d (fun hcd => ?_) (fun hcd => ?_)) <;> (try simp only [hcP] at hcd) <;> (try exact cdT))) | (guard_target =~ rg _ _ _ _ _ _ _; first | (guard_target =~ rg _ _ _ [] _ _ _; first | (refine rg_end ?_)) | (refine rg_a rfl (h := ?_)) | (refine rg_v rfl (h := ?_)) | (refine rg_s rfl ?_)) | (guard_target =~ SOp _ _ _ _ _ _; first | (guard_target =~ SOp _ _ ⟨_, .call ⟨.value (.func 5), _, _⟩, _, _, _, none⟩ _ _ _; first | (refine n_call (f := 5) rfl Try.call5 (h := AEq.pure' agT dalive (hq := ?_)))) | (guard_target =~ SOp _ _ ⟨_, .call ⟨.value (.func 4), _, _⟩, _, _, _, none⟩ _ _ _; first | (refine n_call (f := 4) rfl Try.call4 (h := AEq.pure' agT (large_d _ _ (by assumption) (by assumption)) (hq := ?_)))) | (guard_target =~ SOp _ _ ⟨_, .call ⟨.value (.func 5), _, _⟩, _, _, _, some _⟩ _ _ _; first | (refine n_call (f := 5) rfl Try.call5 (h := AEq.pure' agT dalive (hq := ?_))))) | (guard_target =~ (_ ∨ _) ∧ _; first | ((refine end_d [] (by rw [Try.results3, Lf.res1]) (ale_1 ?_) ?_) <;> (try (first | exact aleT | exact stq (by with_reducible rfl) | exact stq (by rfl) | exact stq (by simp (disch := omega) only [go_sem, seval, ↓reduceIte, hU]))))) | (refine hK _ _ ?_; clear hK K))
 | false =>
  obtain ⟨hl2, hx2⟩ := larF_no hL
  by_cases hs : sd = 0 ∨ sd = 1
  ·obtain ⟨hb1, hb2, hb3⟩ := seeF_len sd l
   have hl3 : l.length ≤ 100 := by omega
   have hx3 : ∀ x ∈ l, x.b.length ≤ 100000 := fun x hx => Nat.le_trans (hx2 x hx) (by decide)
   have hdl : (dutF sd (seeF sd l)).length ≤ 60 := by rw [dutF_len]; omega
   have hdb : ∀ x ∈ dutF sd (seeF sd l), x.b.length ≤ 1000000000 := fun x hx => Nat.le_trans (dutF_b x hx) (by decide)
   have hdl2 : (dutF sd (seeF sd l)).length ≤ 1000000000 := by omega
   have hal : (l ++ dutF sd (seeF sd l)).length ≤ 100 := by rw [List.length_append]; omega
   have hab : ∀ x ∈ l ++ dutF sd (seeF sd l), x.b.length ≤ 100000 := by
    intro x hx
    rcases List.mem_append.1 hx with h | h
    ·exact hx3 x h
    ·exact Nat.le_trans (dutF_b x h) (by decide)
   have hno := dutF_none hs l
   have hfj : List.map frA l ++ List.map frA (dutF sd (seeF sd l)) = List.map frA (l ++ dutF sd (seeF sd l)) := List.map_append.symm
   have hrr : (dutF sd (seeF sd l)).map rqF = (dutF sd (seeF sd l)).map rqF := rfl
   refine acall_body Try.func3 rfl Try.ntmps3 (by simp) (fun hsc => ?_); simp only [Lf.enter, Nat.reduceAdd]; clear hsc
   have hU := And.intro @hL ( And.intro @hno (@hfj))
   repeat' (first | (guard_target =~ PWp _ _ _ _ _ _ _; first | (refine pwp_seq_k (fun K hK => ?_)) | (refine pwp_rg_then ?_) | (refine pwp_ret ?_) | (refine pwp_skip ?_) | ((refine pwp_cond_d (fun hcd => ?_) (fun hcd => ?_)) <;> (try simp only [hcP] at hcd) <;> (try exact cdT))) | (guard_target =~ rg _ _ _ _ _ _ _; first | (guard_target =~ rg _ _ _ (⟨_, .move _, _, _, _, some _⟩ :: _) _ _ _; first | (refine rg_gtp rfl (h := ?_)) | (refine rg_gt rfl (h := ?_))) | (guard_target =~ rg _ _ _ (⟨_, .call ⟨.value (.func 6), _, _⟩, _, _, _, some _⟩ :: _) _ _ _; first | (refine rg_gtp rfl (h := ?_)) | (refine rg_gt rfl (h := ?_))) | (guard_target =~ rg _ _ _ (⟨_, .call ⟨.builtin .len, _, _⟩, _, _, _, some _⟩ :: _) _ _ _; first | (refine rg_gtp rfl (h := ?_)) | (refine rg_gt rfl (h := ?_))) | (guard_target =~ rg _ _ _ (⟨_, .call ⟨.value (.func 5), _, _⟩, _, _, _, some _⟩ :: _) _ _ _; first | (refine rg_gtp rfl (h := ?_)) | (refine rg_gt rfl (h := ?_))) | (guard_target =~ rg _ _ _ (⟨_, .binOp _ _ _ _ _, _, _, _, some _⟩ :: _) _ _ _; first | (refine rg_gtp rfl (h := ?_)) | (refine rg_gt rfl (h := ?_))) | (guard_target =~ rg _ _ _ [] _ _ _; first | (refine rg_end ?_)) | (refine rg_a rfl (h := ?_)) | (refine rg_v rfl (h := ?_)) | (refine rg_s rfl ?_)) | (guard_target =~ SOp _ _ _ _ _ _; first | (guard_target =~ SOp _ _ ⟨_, .call ⟨.builtin .append, _, _⟩, _, _, _, none⟩ _ _ _; first | (refine n_append_row rfl (he := by first | exact eo3 | exact eo4 | exact eo5 | exact eo22 | exact eo28 | exact eo30 | fail) (hK := ?_)) | (refine n_append_new rfl (he := by first | exact eo3 | exact eo4 | exact eo5 | exact eo22 | exact eo28 | exact eo30 | fail) (hK := ?_))) | (guard_target =~ SOp _ _ ⟨_, .call ⟨.value (.func 6), _, _⟩, _, _, _, some _⟩ _ _ _; first | (refine n_call (f := 6) rfl Try.call6 (h := AEq.pure' agT (dduties _ _ _ _ (by assumption) (by assumption) (by assumption)) (hq := ?_)))) | (guard_target =~ SOp _ _ ⟨_, .call ⟨.value (.func 5), _, _⟩, _, _, _, none⟩ _ _ _; first | (refine n_call (f := 5) rfl Try.call5 (h := AEq.pure' agT dalive (hq := ?_)))) | (guard_target =~ SOp _ _ ⟨_, .call ⟨.value (.func 6), _, _⟩, _, _, _, none⟩ _ _ _; first | (refine n_call (f := 6) rfl Try.call6 (h := AEq.pure' agT (dduties _ _ _ _ (by assumption) (by assumption) (by assumption)) (hq := ?_)))) | (guard_target =~ SOp _ _ ⟨_, .call ⟨.value (.func 8), _, _⟩, _, _, _, none⟩ _ _ _; first | (refine n_call (f := 8) rfl Try.call8 (h := AEq.pure' agT (rduties _ _ _ (by assumption) (by assumption) (by assumption)) (hq := ?_)))) | (guard_target =~ SOp _ _ ⟨_, .buildSlice _ _ _, _, _, _, none⟩ _ _ _; first | (refine n_lit rfl (he := by first | exact eo3 | exact eo4 | exact eo5 | exact eo22 | exact eo28 | exact eo30 | fail) (hK := ?_))) | (guard_target =~ SOp _ _ ⟨_, .call ⟨.value (.func 7), _, _⟩, _, _, _, none⟩ _ _ _; first | (refine n_call (f := 7) rfl Try.call7 (h := AEq.pure' agT (rfall _ _ _ _ _ _ (by assumption) (by assumption) (by assumption)) (hq := ?_)))) | (guard_target =~ SOp _ _ ⟨_, .call ⟨.value (.func 4), _, _⟩, _, _, _, none⟩ _ _ _; first | (refine n_call (f := 4) rfl Try.call4 (h := AEq.pure' agT (large_d _ _ (by assumption) (by assumption)) (hq := ?_)))) | (guard_target =~ SOp _ _ ⟨_, .call ⟨.value (.func 5), _, _⟩, _, _, _, some _⟩ _ _ _; first | (refine n_call (f := 5) rfl Try.call5 (h := AEq.pure' agT dalive (hq := ?_))))) | (guard_target =~ (_ ∨ _) ∧ _; first | ((refine end_d [] (by rw [Try.results3, Lf.res1]) (ale_1 ?_) ?_) <;> (try (first | exact aleT | exact stq (by with_reducible rfl) | exact stq (by rfl) | exact stq (by simp (disch := omega) only [go_sem, seval, ↓reduceIte, hU]))))) | (refine hK _ _ ?_; clear hK K))
  ·have h0 : ([] : List Fr).length ≤ 1000000000 := by decide
   have h1 : ∀ x ∈ ([] : List Fr), x.b.length ≤ 1000000000 := by simp
   have h2 : ([] : List Fr).map rqF = ([] : List Fr).map rqF := rfl
   refine acall_body Try.func3 rfl Try.ntmps3 (by simp) (fun hsc => ?_); simp only [Lf.enter, Nat.reduceAdd]; clear hsc
   have hU := @hL
   repeat' (first | (guard_target =~ PWp _ _ _ _ _ _ _; first | (refine pwp_seq_k (fun K hK => ?_)) | (refine pwp_rg_then ?_) | (refine pwp_ret ?_) | (refine pwp_skip ?_) | ((refine pwp_cond_d (fun hcd => ?_) (fun hcd => ?_)) <;> (try simp only [hcP] at hcd) <;> (try exact cdT))) | (guard_target =~ rg _ _ _ _ _ _ _; first | (guard_target =~ rg _ _ _ (⟨_, .move _, _, _, _, some _⟩ :: _) _ _ _; first | (refine rg_gtp rfl (h := ?_)) | (refine rg_gt rfl (h := ?_))) | (guard_target =~ rg _ _ _ (⟨_, .call ⟨.value (.func 6), _, _⟩, _, _, _, some _⟩ :: _) _ _ _; first | (refine rg_gtp rfl (h := ?_)) | (refine rg_gt rfl (h := ?_))) | (guard_target =~ rg _ _ _ (⟨_, .call ⟨.builtin .len, _, _⟩, _, _, _, some _⟩ :: _) _ _ _; first | (refine rg_gtp rfl (h := ?_)) | (refine rg_gt rfl (h := ?_))) | (guard_target =~ rg _ _ _ (⟨_, .call ⟨.value (.func 5), _, _⟩, _, _, _, some _⟩ :: _) _ _ _; first | (refine rg_gtp rfl (h := ?_)) | (refine rg_gt rfl (h := ?_))) | (guard_target =~ rg _ _ _ (⟨_, .binOp _ _ _ _ _, _, _, _, some _⟩ :: _) _ _ _; first | (refine rg_gtp rfl (h := ?_)) | (refine rg_gt rfl (h := ?_))) | (guard_target =~ rg _ _ _ [] _ _ _; first | (refine rg_end ?_)) | (refine rg_a rfl (h := ?_)) | (refine rg_v rfl (h := ?_)) | (refine rg_s rfl ?_)) | (guard_target =~ SOp _ _ _ _ _ _; first | (guard_target =~ SOp _ _ ⟨_, .call ⟨.builtin .append, _, _⟩, _, _, _, none⟩ _ _ _; first | (refine n_append_row rfl (he := by first | exact eo3 | exact eo4 | exact eo5 | exact eo22 | exact eo28 | exact eo30 | fail) (hK := ?_)) | (refine n_append_new rfl (he := by first | exact eo3 | exact eo4 | exact eo5 | exact eo22 | exact eo28 | exact eo30 | fail) (hK := ?_))) | (guard_target =~ SOp _ _ ⟨_, .call ⟨.value (.func 6), _, _⟩, _, _, _, some _⟩ _ _ _; first | (refine n_call (f := 6) rfl Try.call6 (h := AEq.pure' agT (dduties_no _ _ _ _ (by assumption)) (hq := ?_)))) | (guard_target =~ SOp _ _ ⟨_, .call ⟨.value (.func 5), _, _⟩, _, _, _, none⟩ _ _ _; first | (refine n_call (f := 5) rfl Try.call5 (h := AEq.pure' agT dalive (hq := ?_)))) | (guard_target =~ SOp _ _ ⟨_, .call ⟨.value (.func 6), _, _⟩, _, _, _, none⟩ _ _ _; first | (refine n_call (f := 6) rfl Try.call6 (h := AEq.pure' agT (dduties_no _ _ _ _ (by assumption)) (hq := ?_)))) | (guard_target =~ SOp _ _ ⟨_, .call ⟨.value (.func 8), _, _⟩, _, _, _, none⟩ _ _ _; first | (refine n_call (f := 8) rfl Try.call8 (h := AEq.pure' agT (rduties_no _ _ _ (by assumption)) (hq := ?_)))) | (guard_target =~ SOp _ _ ⟨_, .buildSlice _ _ _, _, _, _, none⟩ _ _ _; first | (refine n_lit rfl (he := by first | exact eo3 | exact eo4 | exact eo5 | exact eo22 | exact eo28 | exact eo30 | fail) (hK := ?_))) | (guard_target =~ SOp _ _ ⟨_, .call ⟨.value (.func 7), _, _⟩, _, _, _, none⟩ _ _ _; first | (refine n_call (f := 7) rfl Try.call7 (h := AEq.pure' agT (rfall _ _ _ _ _ _ (by assumption) (by assumption) (by assumption)) (hq := ?_)))) | (guard_target =~ SOp _ _ ⟨_, .call ⟨.value (.func 4), _, _⟩, _, _, _, none⟩ _ _ _; first | (refine n_call (f := 4) rfl Try.call4 (h := AEq.pure' agT (large_d _ _ (by assumption) (by assumption)) (hq := ?_)))) | (guard_target =~ SOp _ _ ⟨_, .call ⟨.value (.func 5), _, _⟩, _, _, _, some _⟩ _ _ _; first | (refine n_call (f := 5) rfl Try.call5 (h := AEq.pure' agT dalive (hq := ?_))))) | (guard_target =~ (_ ∨ _) ∧ _; first | ((refine end_d [] (by rw [Try.results3, Lf.res1]) (ale_1 ?_) ?_) <;> (try (first | exact aleT | exact stq (by with_reducible rfl) | exact stq (by rfl) | exact stq (by simp (disch := omega) only [go_sem, seval, ↓reduceIte, hU]))))) | (refine hK _ _ ?_; clear hK K))
end Go.Proofs.Ytdalcgfnlbofdaa

set_option linter.unusedVariables false
set_option linter.unusedSimpArgs false
namespace Go.Proofs.Ytdalcgfnlbofdaa
open Go Go.Lf Go.Proofs
attribute [local irreducible] Lf.rg Lf.ro Lf.PWp Lf.SOp Lf.ACall Lf.Scoped Lf.dg
set_option maxRecDepth 20000
set_option maxHeartbeats 4000000
theorem das_map {α : Type} {g : α → List AV} {p : α → Prop} : ∀ (ys : List (List AV)), (∀ y ∈ ys, ∃ a, p a ∧ y = g a) → ∃ l : List α, (∀ a ∈ l, p a) ∧ ys = l.map g
 | [], _ => ⟨[], by simp, rfl⟩
 | y :: ys, h => by
  obtain ⟨a, ha, rfl⟩ := h y List.mem_cons_self
  obtain ⟨l, hl, rfl⟩ := das_map ys (fun y hy => h y (List.mem_cons_of_mem _ hy))
  exact ⟨a :: l, fun b hb => by rcases List.mem_cons.1 hb with rfl | hb; exact ha; exact hl b hb, rfl⟩
theorem sh_raw {k : Nat} {y : List AV} (h : Sh Try.prog (k + 4) 30 y) : ∃ c : Fr, c.b.length ≤ 9223372036854775807 ∧ y = frA c := by
 simp only [Sh, Try.underlying30, Try.underlying3, Try.underlying4, Try.underlying28] at h
 obtain ⟨h1, h2⟩ := h
 have a := h2 _ (List.mem_cons_self)
 have b := h2 _ (List.mem_cons_of_mem _ (List.mem_cons_self))
 have c := h2 _ (List.mem_cons_of_mem _ (List.mem_cons_of_mem _ (List.mem_cons_self)))
 have d := h2 _ (List.mem_cons_of_mem _ (List.mem_cons_of_mem _ (List.mem_cons_of_mem _ (List.mem_cons_self))))
 have e := h2 _ (List.mem_cons_of_mem _ (List.mem_cons_of_mem _ (List.mem_cons_of_mem _ (List.mem_cons_of_mem _ (List.mem_cons_self)))))
 have f := h2 _ (List.mem_cons_of_mem _ (List.mem_cons_of_mem _ (List.mem_cons_of_mem _ (List.mem_cons_of_mem _ (List.mem_cons_of_mem _ (List.mem_cons_self))))))
 simp only [ce3, ce4, ce28, Try.underlying3, Try.underlying4, Try.underlying28] at a b c d e f h1
 obtain ⟨n1, _, ha⟩ := a
 obtain ⟨n2, _, hb⟩ := b
 obtain ⟨n3, _, hc⟩ := c
 obtain ⟨n4, _, hd⟩ := d
 obtain ⟨n5, he⟩ := e
 obtain ⟨ys, hl, hy, hf⟩ := f
 obtain ⟨bs, rfl⟩ := as_map (g := byteA) ys (fun y h => sh_byte (k := k + 1) Try.underlying5 (hy y h))
 refine ⟨⟨false, n1, n2, n3, n4, n5, bs⟩, by simpa [maxLen] using hl, ?_⟩
 rw [ce30] at h1
 match y, h1 with
 | [p1, p2, p3, p4, p5, p6], _ =>
  simp at ha hb hc hd he hf
  simp [frA, ha, hb, hc, hd, he, hf]
theorem in_raws {w : World} {a : Option Addr} {l c k : Nat} (h : ∃ xs, Sh Try.prog (k + 5) 22 xs ∧ ((∃ x, xs = [x] ∧ VR [] rz0 w x (.slice a l c)) ∨ VR [] rz0 w (.ag xs) (.slice a l c))) :
    ∃ s : List Fr, s.length ≤ 9223372036854775807 ∧ (∀ r ∈ s, r.b.length ≤ 9223372036854775807) ∧ VR [] rz0 w (.sl false false (s.map frA)) (.slice a l c) := by
  obtain ⟨ys, h1, h2, h3⟩ := in_sl Try.underlying22 h
  obtain ⟨b, hb, rfl⟩ := das_map (g := frA) (p := fun r => r.b.length ≤ 9223372036854775807) ys (fun y hy => sh_raw (k := k) (h2 y hy))
  exact ⟨b, by simpa [maxLen] using h1, hb, h3⟩
end Go.Proofs.Ytdalcgfnlbofdaa

