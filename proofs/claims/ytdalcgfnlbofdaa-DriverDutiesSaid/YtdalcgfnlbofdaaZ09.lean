import Derived.Test.YtdalcgfnlbofdaaZ08
import Derived.Test.YtdalcgfnlbofdaaZ01
import Derived.Test.YtdalcgfnlbofdaaLc
import Derived.Test.YtdalcgfnlbofdaaZ07
set_option linter.unusedVariables false
set_option linter.unusedSimpArgs false
namespace Go.Proofs.Ytdalcgfnlbofdaa
open Go Go.Lf Go.Proofs
attribute [local irreducible] Lf.rg Lf.ro Lf.PWp Lf.SOp Lf.ACall Lf.Scoped Lf.dg Lf.dw
set_option maxRecDepth 20000
set_option maxHeartbeats 4000000
theorem osee_el (sd n : Int) (s : Nat) (l : List (List UInt8)) (w t g st : Int) (r f : Bool) (b : List UInt8) (hl : l.length ≤ 1000) (hb : b.length ≤ 100000) (hn : -1000 ≤ n ∧ n ≤ 1000) (hs : sd = 0 ∨ sd = 1) (ho : hdOk ⟨b.length, t, g, st, r⟩) (F : Fm) (hP : parM t g st b = (F, 0, 0)) (he : (¬ t = 4 ∧ ¬ t = 6) ∨ (¬ (w = 1 - sd ∧ hasB t g 1 = false) ∧ ¬ (w = sd ∧ hasB t g 1 = true))) : AEq Try.prog 11 [.ptr 0 0, .ag [i64 w, i64 t, i64 g, i64 st, bl r, .sl f false (b.map byteA)]] [.box [i64 sd, i64 n, .row 1 s], .row s 28 1 (l.map bsA)] (.tu []) [.box [i64 sd, i64 n, .row 1 s], .row s 28 1 (l.map bsA)] := by
 have hg : 0 ≤ g ∧ g < 256 := by unfold hdOk at ho; dsimp only at ho; omega
 have hg0 := hg.1
 have hg1 := hg.2
 rcases he with ⟨h4, h6⟩ | ⟨c1, c2⟩
 ·have d4 := dec_f h4
  have d6 := dec_f h6
  cases hB : hasB t g 1 with
  | true =>
   refine acall_body Try.func11 rfl Try.ntmps11 (by simp) (fun hsc => ?_); simp only [Lf.enter, Nat.reduceAdd]; clear hsc
   have hU := And.intro @hP ( And.intro @d4 ( And.intro @d6 (@hB)))
   repeat' (first | (guard_target =~ PWp _ _ _ _ _ _ _; first | (refine pwp_seq_k (fun K hK => ?_)) | (refine pwp_block ?_) | (refine pwp_rg_then ?_) | (refine pwp_draw mixed (by kernel_rfl) ?_) | (refine pwp_skip ?_) | ((refine pwp_cond_d (fun hcd => ?_) (fun hcd => ?_)) <;> (try simp only [hcP] at hcd) <;> (try exact cdT))) | (guard_target =~ rg _ _ _ _ _ _ _; first | (guard_target =~ rg _ _ _ (⟨_, .move _, _, _, _, some _⟩ :: _) _ _ _; first | (refine rg_gtp rfl (h := ?_)) | (refine rg_gq rfl (h := ?_)) | (refine rg_gt rfl (h := ?_))) | (guard_target =~ rg _ _ _ (⟨_, .build _ _, _, _, _, some _⟩ :: _) _ _ _; first | (refine rg_gtp rfl (h := ?_)) | (refine rg_gq rfl (h := ?_)) | (refine rg_gt rfl (h := ?_))) | (guard_target =~ rg _ _ _ (⟨_, .binOp _ _ _ _ _, _, _, _, some _⟩ :: _) _ _ _; first | (refine rg_gtp rfl (h := ?_)) | (refine rg_gq rfl (h := ?_)) | (refine rg_gt rfl (h := ?_))) | (guard_target =~ rg _ _ _ (⟨_, .load _ _, _, _, _, some _⟩ :: _) _ _ _; first | (refine rg_gtp rfl (h := ?_)) | (refine rg_gq rfl (h := ?_)) | (refine rg_gt rfl (h := ?_))) | (guard_target =~ rg _ _ _ (⟨_, .unOp _ _ _, _, _, _, some _⟩ :: _) _ _ _; first | (refine rg_gtp rfl (h := ?_)) | (refine rg_gq rfl (h := ?_)) | (refine rg_gt rfl (h := ?_))) | (guard_target =~ rg _ _ _ [] _ _ _; first | (refine rg_end ?_)) | (refine rg_a rfl (h := ?_)) | (refine rg_x rfl (hy := rfl) (h := ?_)) | (refine rg_v rfl (h := ?_)) | (refine rg_s rfl ?_) | (refine rg_n rfl ?_)) | (guard_target =~ SOp _ _ _ _ _ _; first | (guard_target =~ SOp _ _ ⟨_, .binOp _ _ _ _ _, _, _, _, none⟩ _ _ _; first | (refine n_eqag (ne := true) rfl (by first | exact eg30 | exact eg36 | exact eg42 | exact eg44 | exact eg75 | fail) (hc := rfl) (hK := ?_))) | (guard_target =~ SOp _ _ ⟨_, .store _ _ _, _, _, _, none⟩ _ _ _; first | (refine n_store rfl (hK := ?_))) | (guard_target =~ SOp _ _ ⟨_, .alloc _, _, _, _, none⟩ _ _ _; first | (refine n_alloc rfl (by first | exact zv3 | exact zv4 | exact zv5 | exact zv28 | exact zv30 | exact zv33 | exact zv34 | exact zv36 | exact zv40 | exact zv42 | exact zv44 | exact zv50 | exact zv75 | fail) (hK := ?_))) | (guard_target =~ SOp _ _ ⟨_, .build _ _, _, _, _, some _⟩ _ _ _; first | (refine n_build rfl (by first | exact bd30 | exact bd36 | exact bd42 | exact bd44 | exact bd75 | fail) (hK := ?_))) | (guard_target =~ SOp _ _ ⟨_, .binOp _ _ _ _ _, _, _, _, some _⟩ _ _ _; first | (refine n_eqag (ne := true) rfl (by first | exact eg30 | exact eg36 | exact eg42 | exact eg44 | exact eg75 | fail) (hc := rfl) (hK := ?_))) | (guard_target =~ SOp _ _ ⟨_, .call ⟨.value (.func 18), _, _⟩, _, _, _, none⟩ _ _ _; first | (refine n_call (f := 18) rfl Try.call18 (h := AEq.pure' agT (ffparse_ok _ _ _ _ _ _ _ aoT aoT) (hq := ?_)))) | (guard_target =~ SOp _ _ ⟨_, .box _ _, _, _, _, none⟩ _ _ _; first | (refine n_box rfl (hK := ?_))) | (guard_target =~ SOp _ _ ⟨_, .call ⟨.value (.func 19), _, _⟩, _, _, _, none⟩ _ _ _; first | (refine n_call (f := 19) rfl Try.call19 (h := AEq.pure' agT (khas1 _ _ _ aoT aoT aoT) (hq := ?_))))) | (guard_target =~ dg _ _ _ _ _ _ _; first | (guard_target =~ dg _ _ _ (⟨_, .move _, _, _, _, none⟩ :: _) _ _ _; first | (refine dg_v rfl (hk := ?_))) | (guard_target =~ dg _ _ _ (⟨_, .fieldAddr _ _ _, _, _, _, none⟩ :: _) _ _ _; first | (refine dg_v rfl (hk := ?_))) | (guard_target =~ dg _ _ _ (⟨_, .load _ _, _, _, _, none⟩ :: _) _ _ _; first | (refine dg_v rfl (hk := ?_))) | (guard_target =~ dg _ _ _ (⟨_, .binOp _ _ _ _ _, _, _, _, none⟩ :: _) _ _ _; first | (refine dg_v rfl (hk := ?_))) | (guard_target =~ dg _ _ _ (⟨_, .nilCheck _, _, _, _, none⟩ :: _) _ _ _; first | (refine dg_v rfl (hk := ?_))) | (guard_target =~ dg _ _ _ (⟨_, .assign _, _, _, _, none⟩ :: _) _ _ _; first | (refine dg_a rfl (hk := ?_))) | (guard_target =~ dg _ _ _ (⟨_, .pick _ _ _, _, _, _, none⟩ :: _) _ _ _; first | (refine dg_v rfl (hk := ?_))) | (guard_target =~ dg _ _ _ (⟨_, .move _, _, _, _, some _⟩ :: _) _ _ _; first | (refine dg_gq rfl (hk := ?_))) | (guard_target =~ dg _ _ _ (⟨_, .build _ _, _, _, _, some _⟩ :: _) _ _ _; first | (refine dg_gq rfl (hk := ?_))) | (guard_target =~ dg _ _ _ (⟨_, .binOp _ _ _ _ _, _, _, _, some _⟩ :: _) _ _ _; first | (refine dg_gq rfl (hk := ?_))) | (guard_target =~ dg _ _ _ (⟨_, .load _ _, _, _, _, some _⟩ :: _) _ _ _; first | (refine dg_gq rfl (hk := ?_))) | (guard_target =~ dg _ _ _ (⟨_, .unOp _ _ _, _, _, _, some _⟩ :: _) _ _ _; first | (refine dg_gq rfl (hk := ?_))) | (guard_target =~ dg _ _ _ [] _ _ _; first | (refine dg_nil ?_))) | (guard_target =~ (_ ∨ _) ∧ _; first | ((refine end_d [0, 1] (by rw [Try.results11, Lf.res0]) ale_0 ?_) <;> (try (first | exact aleT | exact stq (by with_reducible rfl) | exact stq (by rfl) | exact stq (by simp (disch := omega) only [go_sem, seval, ↓reduceIte, hU]))))) | (refine hK _ _ ?_; clear hK K))
  | false =>
   refine acall_body Try.func11 rfl Try.ntmps11 (by simp) (fun hsc => ?_); simp only [Lf.enter, Nat.reduceAdd]; clear hsc
   have hU := And.intro @hP ( And.intro @d4 ( And.intro @d6 (@hB)))
   repeat' (first | (guard_target =~ PWp _ _ _ _ _ _ _; first | (refine pwp_seq_k (fun K hK => ?_)) | (refine pwp_block ?_) | (refine pwp_rg_then ?_) | (refine pwp_draw mixed (by kernel_rfl) ?_) | (refine pwp_skip ?_) | ((refine pwp_cond_d (fun hcd => ?_) (fun hcd => ?_)) <;> (try simp only [hcP] at hcd) <;> (try exact cdT))) | (guard_target =~ rg _ _ _ _ _ _ _; first | (guard_target =~ rg _ _ _ (⟨_, .move _, _, _, _, some _⟩ :: _) _ _ _; first | (refine rg_gtp rfl (h := ?_)) | (refine rg_gq rfl (h := ?_)) | (refine rg_gt rfl (h := ?_))) | (guard_target =~ rg _ _ _ (⟨_, .build _ _, _, _, _, some _⟩ :: _) _ _ _; first | (refine rg_gtp rfl (h := ?_)) | (refine rg_gq rfl (h := ?_)) | (refine rg_gt rfl (h := ?_))) | (guard_target =~ rg _ _ _ (⟨_, .binOp _ _ _ _ _, _, _, _, some _⟩ :: _) _ _ _; first | (refine rg_gtp rfl (h := ?_)) | (refine rg_gq rfl (h := ?_)) | (refine rg_gt rfl (h := ?_))) | (guard_target =~ rg _ _ _ (⟨_, .load _ _, _, _, _, some _⟩ :: _) _ _ _; first | (refine rg_gtp rfl (h := ?_)) | (refine rg_gq rfl (h := ?_)) | (refine rg_gt rfl (h := ?_))) | (guard_target =~ rg _ _ _ (⟨_, .unOp _ _ _, _, _, _, some _⟩ :: _) _ _ _; first | (refine rg_gtp rfl (h := ?_)) | (refine rg_gq rfl (h := ?_)) | (refine rg_gt rfl (h := ?_))) | (guard_target =~ rg _ _ _ [] _ _ _; first | (refine rg_end ?_)) | (refine rg_a rfl (h := ?_)) | (refine rg_x rfl (hy := rfl) (h := ?_)) | (refine rg_v rfl (h := ?_)) | (refine rg_s rfl ?_) | (refine rg_n rfl ?_)) | (guard_target =~ SOp _ _ _ _ _ _; first | (guard_target =~ SOp _ _ ⟨_, .binOp _ _ _ _ _, _, _, _, none⟩ _ _ _; first | (refine n_eqag (ne := true) rfl (by first | exact eg30 | exact eg36 | exact eg42 | exact eg44 | exact eg75 | fail) (hc := rfl) (hK := ?_))) | (guard_target =~ SOp _ _ ⟨_, .store _ _ _, _, _, _, none⟩ _ _ _; first | (refine n_store rfl (hK := ?_))) | (guard_target =~ SOp _ _ ⟨_, .alloc _, _, _, _, none⟩ _ _ _; first | (refine n_alloc rfl (by first | exact zv3 | exact zv4 | exact zv5 | exact zv28 | exact zv30 | exact zv33 | exact zv34 | exact zv36 | exact zv40 | exact zv42 | exact zv44 | exact zv50 | exact zv75 | fail) (hK := ?_))) | (guard_target =~ SOp _ _ ⟨_, .build _ _, _, _, _, some _⟩ _ _ _; first | (refine n_build rfl (by first | exact bd30 | exact bd36 | exact bd42 | exact bd44 | exact bd75 | fail) (hK := ?_))) | (guard_target =~ SOp _ _ ⟨_, .binOp _ _ _ _ _, _, _, _, some _⟩ _ _ _; first | (refine n_eqag (ne := true) rfl (by first | exact eg30 | exact eg36 | exact eg42 | exact eg44 | exact eg75 | fail) (hc := rfl) (hK := ?_))) | (guard_target =~ SOp _ _ ⟨_, .call ⟨.value (.func 18), _, _⟩, _, _, _, none⟩ _ _ _; first | (refine n_call (f := 18) rfl Try.call18 (h := AEq.pure' agT (ffparse_ok _ _ _ _ _ _ _ aoT aoT) (hq := ?_)))) | (guard_target =~ SOp _ _ ⟨_, .box _ _, _, _, _, none⟩ _ _ _; first | (refine n_box rfl (hK := ?_))) | (guard_target =~ SOp _ _ ⟨_, .call ⟨.value (.func 19), _, _⟩, _, _, _, none⟩ _ _ _; first | (refine n_call (f := 19) rfl Try.call19 (h := AEq.pure' agT (khas1 _ _ _ aoT aoT aoT) (hq := ?_))))) | (guard_target =~ dg _ _ _ _ _ _ _; first | (guard_target =~ dg _ _ _ (⟨_, .move _, _, _, _, none⟩ :: _) _ _ _; first | (refine dg_v rfl (hk := ?_))) | (guard_target =~ dg _ _ _ (⟨_, .fieldAddr _ _ _, _, _, _, none⟩ :: _) _ _ _; first | (refine dg_v rfl (hk := ?_))) | (guard_target =~ dg _ _ _ (⟨_, .load _ _, _, _, _, none⟩ :: _) _ _ _; first | (refine dg_v rfl (hk := ?_))) | (guard_target =~ dg _ _ _ (⟨_, .binOp _ _ _ _ _, _, _, _, none⟩ :: _) _ _ _; first | (refine dg_v rfl (hk := ?_))) | (guard_target =~ dg _ _ _ (⟨_, .nilCheck _, _, _, _, none⟩ :: _) _ _ _; first | (refine dg_v rfl (hk := ?_))) | (guard_target =~ dg _ _ _ (⟨_, .assign _, _, _, _, none⟩ :: _) _ _ _; first | (refine dg_a rfl (hk := ?_))) | (guard_target =~ dg _ _ _ (⟨_, .pick _ _ _, _, _, _, none⟩ :: _) _ _ _; first | (refine dg_v rfl (hk := ?_))) | (guard_target =~ dg _ _ _ (⟨_, .move _, _, _, _, some _⟩ :: _) _ _ _; first | (refine dg_gq rfl (hk := ?_))) | (guard_target =~ dg _ _ _ (⟨_, .build _ _, _, _, _, some _⟩ :: _) _ _ _; first | (refine dg_gq rfl (hk := ?_))) | (guard_target =~ dg _ _ _ (⟨_, .binOp _ _ _ _ _, _, _, _, some _⟩ :: _) _ _ _; first | (refine dg_gq rfl (hk := ?_))) | (guard_target =~ dg _ _ _ (⟨_, .load _ _, _, _, _, some _⟩ :: _) _ _ _; first | (refine dg_gq rfl (hk := ?_))) | (guard_target =~ dg _ _ _ (⟨_, .unOp _ _ _, _, _, _, some _⟩ :: _) _ _ _; first | (refine dg_gq rfl (hk := ?_))) | (guard_target =~ dg _ _ _ [] _ _ _; first | (refine dg_nil ?_))) | (guard_target =~ (_ ∨ _) ∧ _; first | ((refine end_d [0, 1] (by rw [Try.results11, Lf.res0]) ale_0 ?_) <;> (try (first | exact aleT | exact stq (by with_reducible rfl) | exact stq (by rfl) | exact stq (by simp (disch := omega) only [go_sem, seval, ↓reduceIte, hU]))))) | (refine hK _ _ ?_; clear hK K))
 ·cases hB : hasB t g 1 with
  | true =>
   have hw : ¬ w = sd := fun e => c2 ⟨e, hB⟩
   have dw := dec_f hw
   have hq : (w = sd) = False := eq_false hw
   refine acall_body Try.func11 rfl Try.ntmps11 (by simp) (fun hsc => ?_); simp only [Lf.enter, Nat.reduceAdd]; clear hsc
   have hU := And.intro @hP ( And.intro @dw ( And.intro @hq ( And.intro @and_false (@hB))))
   repeat' (first | (guard_target =~ PWp _ _ _ _ _ _ _; first | (refine pwp_seq_k (fun K hK => ?_)) | (refine pwp_block ?_) | (refine pwp_rg_then ?_) | (refine pwp_draw mixed (by kernel_rfl) ?_) | (refine pwp_skip ?_) | ((refine pwp_cond_d (fun hcd => ?_) (fun hcd => ?_)) <;> (try simp only [hcP] at hcd) <;> (try exact cdT))) | (guard_target =~ rg _ _ _ _ _ _ _; first | (guard_target =~ rg _ _ _ (⟨_, .move _, _, _, _, some _⟩ :: _) _ _ _; first | (refine rg_gtp rfl (h := ?_)) | (refine rg_gq rfl (h := ?_)) | (refine rg_gt rfl (h := ?_))) | (guard_target =~ rg _ _ _ (⟨_, .build _ _, _, _, _, some _⟩ :: _) _ _ _; first | (refine rg_gtp rfl (h := ?_)) | (refine rg_gq rfl (h := ?_)) | (refine rg_gt rfl (h := ?_))) | (guard_target =~ rg _ _ _ (⟨_, .binOp _ _ _ _ _, _, _, _, some _⟩ :: _) _ _ _; first | (refine rg_gtp rfl (h := ?_)) | (refine rg_gq rfl (h := ?_)) | (refine rg_gt rfl (h := ?_))) | (guard_target =~ rg _ _ _ (⟨_, .load _ _, _, _, _, some _⟩ :: _) _ _ _; first | (refine rg_gtp rfl (h := ?_)) | (refine rg_gq rfl (h := ?_)) | (refine rg_gt rfl (h := ?_))) | (guard_target =~ rg _ _ _ (⟨_, .unOp _ _ _, _, _, _, some _⟩ :: _) _ _ _; first | (refine rg_gtp rfl (h := ?_)) | (refine rg_gq rfl (h := ?_)) | (refine rg_gt rfl (h := ?_))) | (guard_target =~ rg _ _ _ [] _ _ _; first | (refine rg_end ?_)) | (refine rg_a rfl (h := ?_)) | (refine rg_x rfl (hy := rfl) (h := ?_)) | (refine rg_v rfl (h := ?_)) | (refine rg_s rfl ?_) | (refine rg_n rfl ?_)) | (guard_target =~ SOp _ _ _ _ _ _; first | (guard_target =~ SOp _ _ ⟨_, .binOp _ _ _ _ _, _, _, _, none⟩ _ _ _; first | (refine n_eqag (ne := true) rfl (by first | exact eg30 | exact eg36 | exact eg42 | exact eg44 | exact eg75 | fail) (hc := rfl) (hK := ?_))) | (guard_target =~ SOp _ _ ⟨_, .store _ _ _, _, _, _, none⟩ _ _ _; first | (refine n_store rfl (hK := ?_))) | (guard_target =~ SOp _ _ ⟨_, .alloc _, _, _, _, none⟩ _ _ _; first | (refine n_alloc rfl (by first | exact zv3 | exact zv4 | exact zv5 | exact zv28 | exact zv30 | exact zv33 | exact zv34 | exact zv36 | exact zv40 | exact zv42 | exact zv44 | exact zv50 | exact zv75 | fail) (hK := ?_))) | (guard_target =~ SOp _ _ ⟨_, .build _ _, _, _, _, some _⟩ _ _ _; first | (refine n_build rfl (by first | exact bd30 | exact bd36 | exact bd42 | exact bd44 | exact bd75 | fail) (hK := ?_))) | (guard_target =~ SOp _ _ ⟨_, .binOp _ _ _ _ _, _, _, _, some _⟩ _ _ _; first | (refine n_eqag (ne := true) rfl (by first | exact eg30 | exact eg36 | exact eg42 | exact eg44 | exact eg75 | fail) (hc := rfl) (hK := ?_))) | (guard_target =~ SOp _ _ ⟨_, .call ⟨.value (.func 18), _, _⟩, _, _, _, none⟩ _ _ _; first | (refine n_call (f := 18) rfl Try.call18 (h := AEq.pure' agT (ffparse_ok _ _ _ _ _ _ _ aoT aoT) (hq := ?_)))) | (guard_target =~ SOp _ _ ⟨_, .box _ _, _, _, _, none⟩ _ _ _; first | (refine n_box rfl (hK := ?_))) | (guard_target =~ SOp _ _ ⟨_, .call ⟨.value (.func 19), _, _⟩, _, _, _, none⟩ _ _ _; first | (refine n_call (f := 19) rfl Try.call19 (h := AEq.pure' agT (khas1 _ _ _ aoT aoT aoT) (hq := ?_))))) | (guard_target =~ dg _ _ _ _ _ _ _; first | (guard_target =~ dg _ _ _ (⟨_, .move _, _, _, _, none⟩ :: _) _ _ _; first | (refine dg_v rfl (hk := ?_))) | (guard_target =~ dg _ _ _ (⟨_, .fieldAddr _ _ _, _, _, _, none⟩ :: _) _ _ _; first | (refine dg_v rfl (hk := ?_))) | (guard_target =~ dg _ _ _ (⟨_, .load _ _, _, _, _, none⟩ :: _) _ _ _; first | (refine dg_v rfl (hk := ?_))) | (guard_target =~ dg _ _ _ (⟨_, .binOp _ _ _ _ _, _, _, _, none⟩ :: _) _ _ _; first | (refine dg_v rfl (hk := ?_))) | (guard_target =~ dg _ _ _ (⟨_, .nilCheck _, _, _, _, none⟩ :: _) _ _ _; first | (refine dg_v rfl (hk := ?_))) | (guard_target =~ dg _ _ _ (⟨_, .assign _, _, _, _, none⟩ :: _) _ _ _; first | (refine dg_a rfl (hk := ?_))) | (guard_target =~ dg _ _ _ (⟨_, .pick _ _ _, _, _, _, none⟩ :: _) _ _ _; first | (refine dg_v rfl (hk := ?_))) | (guard_target =~ dg _ _ _ (⟨_, .move _, _, _, _, some _⟩ :: _) _ _ _; first | (refine dg_gq rfl (hk := ?_))) | (guard_target =~ dg _ _ _ (⟨_, .build _ _, _, _, _, some _⟩ :: _) _ _ _; first | (refine dg_gq rfl (hk := ?_))) | (guard_target =~ dg _ _ _ (⟨_, .binOp _ _ _ _ _, _, _, _, some _⟩ :: _) _ _ _; first | (refine dg_gq rfl (hk := ?_))) | (guard_target =~ dg _ _ _ (⟨_, .load _ _, _, _, _, some _⟩ :: _) _ _ _; first | (refine dg_gq rfl (hk := ?_))) | (guard_target =~ dg _ _ _ (⟨_, .unOp _ _ _, _, _, _, some _⟩ :: _) _ _ _; first | (refine dg_gq rfl (hk := ?_))) | (guard_target =~ dg _ _ _ [] _ _ _; first | (refine dg_nil ?_))) | (guard_target =~ (_ ∨ _) ∧ _; first | ((refine end_d [0, 1] (by rw [Try.results11, Lf.res0]) ale_0 ?_) <;> (try (first | exact aleT | exact stq (by with_reducible rfl) | exact stq (by rfl) | exact stq (by simp (disch := omega) only [go_sem, seval, ↓reduceIte, hU]))))) | (refine hK _ _ ?_; clear hK K))
  | false =>
   have hw : ¬ w = 1 - sd := fun e => c1 ⟨e, hB⟩
   have dw := dec_f hw
   have hq : (w = 1 - sd) = False := eq_false hw
   refine acall_body Try.func11 rfl Try.ntmps11 (by simp) (fun hsc => ?_); simp only [Lf.enter, Nat.reduceAdd]; clear hsc
   have hU := And.intro @hP ( And.intro @dw ( And.intro @hq ( And.intro @and_false (@hB))))
   repeat' (first | (guard_target =~ PWp _ _ _ _ _ _ _; first | (refine pwp_seq_k (fun K hK => ?_)) | (refine pwp_block ?_) | (refine pwp_rg_then ?_) | (refine pwp_draw mixed (by kernel_rfl) ?_) | (refine pwp_skip ?_) | ((refine pwp_cond_d (fun hcd => ?_) (fun hcd => ?_)) <;> (try simp only [hcP] at hcd) <;> (try exact cdT))) | (guard_target =~ rg _ _ _ _ _ _ _; first | (guard_target =~ rg _ _ _ (⟨_, .move _, _, _, _, some _⟩ :: _) _ _ _; first | (refine rg_gtp rfl (h := ?_)) | (refine rg_gq rfl (h := ?_)) | (refine rg_gt rfl (h := ?_))) | (guard_target =~ rg _ _ _ (⟨_, .build _ _, _, _, _, some _⟩ :: _) _ _ _; first | (refine rg_gtp rfl (h := ?_)) | (refine rg_gq rfl (h := ?_)) | (refine rg_gt rfl (h := ?_))) | (guard_target =~ rg _ _ _ (⟨_, .binOp _ _ _ _ _, _, _, _, some _⟩ :: _) _ _ _; first | (refine rg_gtp rfl (h := ?_)) | (refine rg_gq rfl (h := ?_)) | (refine rg_gt rfl (h := ?_))) | (guard_target =~ rg _ _ _ (⟨_, .load _ _, _, _, _, some _⟩ :: _) _ _ _; first | (refine rg_gtp rfl (h := ?_)) | (refine rg_gq rfl (h := ?_)) | (refine rg_gt rfl (h := ?_))) | (guard_target =~ rg _ _ _ (⟨_, .unOp _ _ _, _, _, _, some _⟩ :: _) _ _ _; first | (refine rg_gtp rfl (h := ?_)) | (refine rg_gq rfl (h := ?_)) | (refine rg_gt rfl (h := ?_))) | (guard_target =~ rg _ _ _ [] _ _ _; first | (refine rg_end ?_)) | (refine rg_a rfl (h := ?_)) | (refine rg_x rfl (hy := rfl) (h := ?_)) | (refine rg_v rfl (h := ?_)) | (refine rg_s rfl ?_) | (refine rg_n rfl ?_)) | (guard_target =~ SOp _ _ _ _ _ _; first | (guard_target =~ SOp _ _ ⟨_, .binOp _ _ _ _ _, _, _, _, none⟩ _ _ _; first | (refine n_eqag (ne := true) rfl (by first | exact eg30 | exact eg36 | exact eg42 | exact eg44 | exact eg75 | fail) (hc := rfl) (hK := ?_))) | (guard_target =~ SOp _ _ ⟨_, .store _ _ _, _, _, _, none⟩ _ _ _; first | (refine n_store rfl (hK := ?_))) | (guard_target =~ SOp _ _ ⟨_, .alloc _, _, _, _, none⟩ _ _ _; first | (refine n_alloc rfl (by first | exact zv3 | exact zv4 | exact zv5 | exact zv28 | exact zv30 | exact zv33 | exact zv34 | exact zv36 | exact zv40 | exact zv42 | exact zv44 | exact zv50 | exact zv75 | fail) (hK := ?_))) | (guard_target =~ SOp _ _ ⟨_, .build _ _, _, _, _, some _⟩ _ _ _; first | (refine n_build rfl (by first | exact bd30 | exact bd36 | exact bd42 | exact bd44 | exact bd75 | fail) (hK := ?_))) | (guard_target =~ SOp _ _ ⟨_, .binOp _ _ _ _ _, _, _, _, some _⟩ _ _ _; first | (refine n_eqag (ne := true) rfl (by first | exact eg30 | exact eg36 | exact eg42 | exact eg44 | exact eg75 | fail) (hc := rfl) (hK := ?_))) | (guard_target =~ SOp _ _ ⟨_, .call ⟨.value (.func 18), _, _⟩, _, _, _, none⟩ _ _ _; first | (refine n_call (f := 18) rfl Try.call18 (h := AEq.pure' agT (ffparse_ok _ _ _ _ _ _ _ aoT aoT) (hq := ?_)))) | (guard_target =~ SOp _ _ ⟨_, .box _ _, _, _, _, none⟩ _ _ _; first | (refine n_box rfl (hK := ?_))) | (guard_target =~ SOp _ _ ⟨_, .call ⟨.value (.func 19), _, _⟩, _, _, _, none⟩ _ _ _; first | (refine n_call (f := 19) rfl Try.call19 (h := AEq.pure' agT (khas1 _ _ _ aoT aoT aoT) (hq := ?_))))) | (guard_target =~ dg _ _ _ _ _ _ _; first | (guard_target =~ dg _ _ _ (⟨_, .move _, _, _, _, none⟩ :: _) _ _ _; first | (refine dg_v rfl (hk := ?_))) | (guard_target =~ dg _ _ _ (⟨_, .fieldAddr _ _ _, _, _, _, none⟩ :: _) _ _ _; first | (refine dg_v rfl (hk := ?_))) | (guard_target =~ dg _ _ _ (⟨_, .load _ _, _, _, _, none⟩ :: _) _ _ _; first | (refine dg_v rfl (hk := ?_))) | (guard_target =~ dg _ _ _ (⟨_, .binOp _ _ _ _ _, _, _, _, none⟩ :: _) _ _ _; first | (refine dg_v rfl (hk := ?_))) | (guard_target =~ dg _ _ _ (⟨_, .nilCheck _, _, _, _, none⟩ :: _) _ _ _; first | (refine dg_v rfl (hk := ?_))) | (guard_target =~ dg _ _ _ (⟨_, .assign _, _, _, _, none⟩ :: _) _ _ _; first | (refine dg_a rfl (hk := ?_))) | (guard_target =~ dg _ _ _ (⟨_, .pick _ _ _, _, _, _, none⟩ :: _) _ _ _; first | (refine dg_v rfl (hk := ?_))) | (guard_target =~ dg _ _ _ (⟨_, .move _, _, _, _, some _⟩ :: _) _ _ _; first | (refine dg_gq rfl (hk := ?_))) | (guard_target =~ dg _ _ _ (⟨_, .build _ _, _, _, _, some _⟩ :: _) _ _ _; first | (refine dg_gq rfl (hk := ?_))) | (guard_target =~ dg _ _ _ (⟨_, .binOp _ _ _ _ _, _, _, _, some _⟩ :: _) _ _ _; first | (refine dg_gq rfl (hk := ?_))) | (guard_target =~ dg _ _ _ (⟨_, .load _ _, _, _, _, some _⟩ :: _) _ _ _; first | (refine dg_gq rfl (hk := ?_))) | (guard_target =~ dg _ _ _ (⟨_, .unOp _ _ _, _, _, _, some _⟩ :: _) _ _ _; first | (refine dg_gq rfl (hk := ?_))) | (guard_target =~ dg _ _ _ [] _ _ _; first | (refine dg_nil ?_))) | (guard_target =~ (_ ∨ _) ∧ _; first | ((refine end_d [0, 1] (by rw [Try.results11, Lf.res0]) ale_0 ?_) <;> (try (first | exact aleT | exact stq (by with_reducible rfl) | exact stq (by rfl) | exact stq (by simp (disch := omega) only [go_sem, seval, ↓reduceIte, hU]))))) | (refine hK _ _ ?_; clear hK K))
end Go.Proofs.Ytdalcgfnlbofdaa

set_option linter.unusedVariables false
set_option linter.unusedSimpArgs false
namespace Go.Proofs.Ytdalcgfnlbofdaa
open Go Go.Lf Go.Proofs
attribute [local irreducible] Lf.rg Lf.ro Lf.PWp Lf.SOp Lf.ACall Lf.Scoped Lf.dg Lf.dw
set_option maxRecDepth 20000
set_option maxHeartbeats 4000000
theorem par6 {g s : Int} {b : List UInt8} (h : fauM 6 g s b = (0, 0)) (hl : b.length = 8) : parM 6 g s b = (⟨6, g, s, -1, false, b, true, [], 0, 0, false, 0, 0, 0, 0⟩, 0, 0) := by
 have h1 := fau_str h
 have h2 := (fau_ok h).1
 have h8 : hasB 6 g 8 = false := hasB_n8 (by decide) (by decide) (by decide)
 have hA : insA 6 g b = 0 := f_f h8
 have hp : padI 6 g b = -1 := f_f h8
 have hN : numT 6 g b 0 = ⟨0, 0, false, 0, 0, 0, 0, false, 0⟩ := by unfold numT; simp
 have hS : insS 6 g b = false := by unfold insS; rw [hA, h8, hN]; rfl
 unfold parM
 rw [if_neg (by rw [h1]; decide), if_neg (by rw [h2]; decide)]
 have hcs := insM_cases 6 g s b
 rw [hA, hp, hS, hN] at hcs
 dsimp only at hcs
 rcases hcs with ⟨e, _⟩ | ⟨_, e, _⟩ | ⟨_, _, e, _⟩ | ⟨_, _, _, e⟩
 ·cases e
 ·omega
 ·exact absurd e (by decide)
 ·rw [e]
  have hb : byL b 0 (b.length - 0 - max (-1) 0) = b := by
   have := byL_drop (b := b) (k := 0) (by decide) (by omega)
   rw [show ((b.length : Int) - 0 - max (-1) 0) = (b.length : Int) - 0 from by omega, this]; rfl
  rw [hb]
def cntM (sd : Int) (s : Nat) (q : Ow) (r : Rq) : Nat :=
 if okQ r ∧ r.t = 6 then (if r.w = 1 - sd ∧ hasB 6 r.g 1 = false then s + 1 else if r.w = sd ∧ hasB 6 r.g 1 = true then (if idxP r.b q.p 0 = -1 then s else s + 1) else s) else s
theorem cnt_no {sd : Int} {s : Nat} {q : Ow} {r : Rq} (h : ¬ (okQ r ∧ r.t = 6)) : cntM sd s q r = s := if_neg h
theorem osee_is (sd : Int) (s : Nat) (q : Ow) (R : Rq) (f : Bool) (hl : q.p.length ≤ 1000) (hb : R.b.length ≤ 100000) (hn : -1000 ≤ q.n ∧ q.n ≤ 1000) (hs : sd = 0 ∨ sd = 1) : AEq Try.prog 11 [.ptr 0 0, .ag [i64 R.w, i64 R.t, i64 R.g, i64 R.s, bl R.r, .sl f false (R.b.map byteA)]] [.box [i64 sd, i64 q.n, .row 1 s], .row s 28 1 (q.p.map bsA)] (.tu []) [.box [i64 sd, i64 (seeM sd q R).n, .row 1 (cntM sd s q R)], .row (cntM sd s q R) 28 1 ((seeM sd q R).p.map bsA)] := by
  obtain ⟨w, t, g, st, r, b⟩ := R
  obtain ⟨n, l⟩ := q
  dsimp only at hl hb hn ⊢
  by_cases ho : hdOk ⟨b.length, t, g, st, r⟩
  · by_cases hf : fauM t g st b = (0, 0)
    · have hok : okQ ⟨w, t, g, st, r, b⟩ := ⟨ho, hf⟩
      have hP : parM t g st b = ((parM t g st b).1, 0, 0) := by
        have := (par_all t g st b).1
        rw [hf] at this
        rw [← this]
      rcases seeM_cases sd ⟨n, l⟩ ⟨w, t, g, st, r, b⟩ with ⟨h, _⟩ | ⟨_, h⟩
      · exact absurd hok h
      · dsimp only at h
        rcases h with ⟨rfl, rfl, hB, e⟩ | ⟨rfl, _, rfl, hB, e⟩ | ⟨rfl, rfl, hB, e⟩ | ⟨rfl, hno, rfl, hB, e⟩ | ⟨he, e⟩
        · rw [e, cnt_no (by rintro ⟨_, h⟩; exact absurd (show (4 : Int) = 6 from h) (by decide))]
          exact osee_4o sd n s l g st r f b hl hb hn hs ho _ hP hB
        · rw [e, cnt_no (by rintro ⟨_, h⟩; exact absurd (show (4 : Int) = 6 from h) (by decide))]
          exact osee_4w _ n s l g st r f b hl hb hn hs ho _ hP hB
        · have hc : cntM sd s ⟨n, l⟩ ⟨1 - sd, 6, g, st, r, b⟩ = s + 1 := by
            unfold cntM
            rw [if_pos ⟨hok, rfl⟩, if_pos ⟨rfl, hB⟩]
          rw [e, hc]
          exact osee_6o sd n s l g st r f b hl hb hn hs ho (par6 hf (ping_len hok rfl)) hB
        · have hc : cntM w s ⟨n, l⟩ ⟨w, 6, g, st, r, b⟩ = if idxP b l 0 = -1 then s else s + 1 := by
            unfold cntM
            rw [if_pos ⟨hok, rfl⟩, if_neg hno, if_pos ⟨rfl, hB⟩]
          rw [e, hc]
          rcases idxP_cases b l 0 (by decide) with ⟨h1, h2⟩ | ⟨k, h1, h2, h3⟩
          · rw [if_pos h1, h2]
            exact osee_6n _ n s l g st r f b hl hb hn hs ho (par6 hf (ping_len hok rfl)) hB h1
          · rw [if_neg (by rw [h1]; omega), h3]
            exact osee_6y _ n s l g st r f b hl hb hn hs ho (par6 hf (ping_len hok rfl)) hB k h2 (by rw [h1]; omega)
        · have hc : cntM sd s ⟨n, l⟩ ⟨w, t, g, st, r, b⟩ = s := by
            by_cases h6 : t = 6
            · subst h6
              rcases he with ⟨_, h6⟩ | ⟨c1, c2⟩
              · exact absurd rfl h6
              · unfold cntM
                dsimp only
                rw [if_neg c1, if_neg c2]
                split <;> rfl
            · exact cnt_no (fun h => h6 h.2)
          rw [e, hc]
          exact osee_el sd n s l w t g st r f b hl hb hn hs ho _ hP he
    · have hno : ¬ okQ ⟨w, t, g, st, r, b⟩ := fun h => hf h.2
      rw [cnt_no (fun h => hno h.1), show seeM sd ⟨n, l⟩ ⟨w, t, g, st, r, b⟩ = ⟨n, l⟩ from if_neg hno]
      have h1 := (par_all t g st b).1
      exact osee_flt sd n s l w t g st r f b hl hb hn hs ho (parM t g st b).1 (parM t g st b).2.1 (parM t g st b).2.2 rfl (fun h => hf (by rw [← h1]; exact Prod.ext h.1 h.2))
  · have hno : ¬ okQ ⟨w, t, g, st, r, b⟩ := fun h => ho h.1
    rw [cnt_no (fun h => hno h.1), show seeM sd ⟨n, l⟩ ⟨w, t, g, st, r, b⟩ = ⟨n, l⟩ from if_neg hno]
    exact osee_no sd n s l w t g st r f b hl hb hn hs ho
end Go.Proofs.Ytdalcgfnlbofdaa

set_option linter.unusedVariables false
set_option linter.unusedSimpArgs false
namespace Go.Proofs.Ytdalcgfnlbofdaa
open Go Go.Lf Go.Proofs
attribute [local irreducible] Lf.rg Lf.ro Lf.PWp Lf.SOp Lf.ACall Lf.Scoped Lf.dg Lf.dw
set_option maxRecDepth 20000
set_option maxHeartbeats 4000000
structure Fr where
 (f : Bool) (w t g s : Int) (r : Bool) (b : List UInt8)
@[go_sem] def frA (f : Fr) : List AV := [i64 f.w, i64 f.t, i64 f.g, i64 f.s, bl f.r, .sl f.f false (f.b.map byteA)]
@[go_sem] theorem purl_frA (l : List Fr) : purl (l.map frA).flatten = true := purl_map (fun a => by simp [frA, purl, pur]) l
@[go_sem] theorem fz_mapfr {κ : List Nat} {σ : Sto} (l : List Fr) : List.map (fzl κ σ) (l.map frA) = l.map frA := fz_mapg (fun _ => rfl) l
theorem cex_at {α : Type} {l : List α} {i : Nat} (h : i < l.length) : ∃ x, l[i]? = some x := ⟨l[i], List.getElem?_eq_getElem h⟩
theorem cdrop_at {α : Type} {l : List α} {i : Nat} {x : α} (h : l[i]? = some x) : l.drop i = x :: l.drop (i + 1) := by
 obtain ⟨h1, h2⟩ := List.getElem?_eq_some_iff.1 h
 rw [List.drop_eq_getElem_cons h1, h2]
end Go.Proofs.Ytdalcgfnlbofdaa

set_option linter.unusedVariables false
set_option linter.unusedSimpArgs false
namespace Go.Proofs.Ytdalcgfnlbofdaa
open Go Go.Lf Go.Proofs
attribute [local irreducible] Lf.rg Lf.ro Lf.PWp Lf.SOp Lf.ACall Lf.Scoped Lf.dg
set_option maxRecDepth 20000
set_option maxHeartbeats 4000000
def rqF (x : Fr) : Rq := ⟨x.w, x.t, x.g, x.s, x.r, x.b⟩
def fsF (sd : Int) : Fr := ⟨true, sd, 4, 1, 0, false, []⟩
def fpF (sd : Int) (b : List UInt8) : Fr := ⟨false, sd, 6, 1, 0, false, b⟩
def dsF (sd : Int) (k : Nat) (p : List (List UInt8)) : List Fr := List.replicate k (fsF sd) ++ p.map (fpF sd)
def dutF (sd : Int) (q : Ow) : List Fr := dsF sd q.n.toNat q.p
theorem dsF_s (sd : Int) (k : Nat) : dsF sd (k + 1) [] = dsF sd k [] ++ [fsF sd] := by unfold dsF; simp [List.replicate_succ']
theorem dsF_p (sd : Int) (k : Nat) (p : List (List UInt8)) (b : List UInt8) : dsF sd k (p ++ [b]) = dsF sd k p ++ [fpF sd b] := by unfold dsF; simp
theorem dutF_rq (sd : Int) (q : Ow) : (dutF sd q).map rqF = dutL sd q := by
 unfold dutF dsF dutL
 rw [List.map_append, List.map_replicate, List.map_map]; rfl
theorem dutF_len (sd : Int) (q : Ow) : (dutF sd q).length = q.n.toNat + q.p.length := by unfold dutF dsF; simp
def seeF (sd : Int) (l : List Fr) : Ow := seeL sd (l.map rqF) ⟨0, []⟩
theorem seeF_s {sd : Int} {l : List Fr} {i : Nat} {x : Fr} (h : l[i]? = some x) : seeF sd (l.take (i + 1)) = seeM sd (seeF sd (l.take i)) (rqF x) := by
 unfold seeF
 rw [List.take_add_one, h, List.map_append, seeL_app]; rfl
theorem seeL_len (sd : Int) : ∀ (l : List Rq) (q : Ow), (seeL sd l q).p.length ≤ q.p.length + l.length ∧ q.n - l.length ≤ (seeL sd l q).n ∧ (seeL sd l q).n ≤ q.n + l.length
 | [], q => by rw [seeL]; simp
 | r :: l, q => by
  have h1 := seeM_len sd q r
  have h2 := seeL_len sd l (seeM sd q r)
  rw [seeL, List.length_cons]
  refine ⟨?_, ?_, ?_⟩ <;> omega
theorem seeF_len (sd : Int) (l : List Fr) : (seeF sd l).p.length ≤ l.length ∧ -(l.length : Int) ≤ (seeF sd l).n ∧ (seeF sd l).n ≤ l.length := by
 have h := seeL_len sd (l.map rqF) ⟨0, []⟩
 rw [List.length_map] at h
 dsimp only [List.length_nil] at h
 unfold seeF
 omega
theorem seeF_8 (sd : Int) (l : List Fr) : ∀ x ∈ (seeF sd l).p, x.length = 8 := seeL_8 (fun b hb => by simp at hb)
theorem dutF_b {sd : Int} {l : List Fr} : ∀ x ∈ dutF sd (seeF sd l), x.b.length ≤ 8 := by
 intro x hx
 unfold dutF dsF at hx
 rcases List.mem_append.1 hx with h | h
 ·rw [List.eq_of_mem_replicate h]; exact Nat.zero_le _
 ·obtain ⟨b, hb, rfl⟩ := List.mem_map.1 h
  have := seeF_8 sd l b hb
  show b.length ≤ 8; omega
theorem dutF_none {sd : Int} (hs : sd = 0 ∨ sd = 1) (l : List Fr) : dutF sd (seeF sd (l ++ dutF sd (seeF sd l))) = [] := by
 have h := dut_none hs (l.map rqF)
 have e : dutL sd (seeF sd (l ++ dutF sd (seeF sd l))) = [] := by
  have e1 : seeF sd (l ++ dutF sd (seeF sd l)) = seeL sd (l.map rqF ++ dutL sd (seeL sd (l.map rqF) ⟨0, []⟩)) ⟨0, []⟩ := by
   show seeL sd ((l ++ dutF sd (seeF sd l)).map rqF) ⟨0, []⟩ = _
   rw [List.map_append, dutF_rq]; rfl
  rw [e1]; exact h
 rw [← dutF_rq] at e
 exact List.map_eq_nil_iff.1 e
theorem rf6 {g s : Int} {b : List UInt8} (h : fauM 6 g s b = (0, 0)) : rfR 6 g s b = ⟨6, g, s, -1, false, b, true, [], 0, 0, false, 0, 0, 0, 0⟩ := by
 rw [show rfR 6 g s b = rfM 6 g s b from if_pos h]
 have h8 : hasB 6 g 8 = false := hasB_n8 (by decide) (by decide) (by decide)
 have hp : padI 6 g b = -1 := by unfold padI; rw [h8]; rfl
 unfold rfM
 rw [if_neg (by decide), if_neg (by decide), if_neg (by decide), if_neg (by decide), if_neg (by decide), if_neg (by rw [hasB_n32 (by decide)]; decide)]
 have hk : kN 6 g = 0 := by unfold kN; rw [h8]; rfl
 rw [hk, hp]
 unfold rfD
 rw [h8, if_neg (by decide)]
 rfl
def lgF : List Fr → Int → Bool
 | [], _ => false
 | c :: l, m => if m < c.b.length then true else lgF l (m - c.b.length)
def larF (l : List Fr) : Bool := if 30 < l.length then true else lgF l 1000
theorem lgF_at {l : List Fr} {i : Nat} {c : Fr} {m : Int} (h : l[i]? = some c) : lgF (l.drop i) m = if m < c.b.length then true else lgF (l.drop (i + 1)) (m - c.b.length) := by
 rw [cdrop_at h, lgF]
theorem lgF_no : ∀ {l : List Fr} {m : Int}, lgF l m = false → ∀ x ∈ l, (x.b.length : Int) ≤ m
 | [], m, _, x, hx => by simp at hx
 | c :: l, m, hl, x, hx => by
  unfold lgF at hl
  split at hl
  ·exact absurd hl (by simp)
  ·rcases List.mem_cons.1 hx with rfl | hx
   ·omega
   ·have := lgF_no hl x hx
    omega
theorem larF_no {l : List Fr} (h : larF l = false) : l.length ≤ 30 ∧ ∀ x ∈ l, x.b.length ≤ 1000 := by
 unfold larF at h
 split at h
 ·exact absurd h (by simp)
 ·exact ⟨by omega, fun x hx => by have := lgF_no h x hx; omega⟩
end Go.Proofs.Ytdalcgfnlbofdaa

set_option linter.unusedVariables false
set_option linter.unusedSimpArgs false
namespace Go.Proofs.Ytdalcgfnlbofdaa
open Go Go.Lf Go.Proofs
attribute [local irreducible] Lf.rg Lf.ro Lf.PWp Lf.SOp Lf.ACall Lf.Scoped Lf.dg Lf.dw
set_option maxRecDepth 20000
set_option maxHeartbeats 4000000
theorem rwithout_n (s : Nat) (l : List (List UInt8)) (g r : Bool) (b : List UInt8) (hl : l.length ≤ 1000) (hz : ∀ x ∈ l, x.length ≤ 100000) (hi : idxP b l 0 = -1) : AEq Try.prog 16 [.row 0 s, .sl g r (b.map byteA)] [.row s 28 1 (l.map bsA)] (.row 0 s) [.row s 28 1 (l.map bsA)] := by
 refine acall_body Try.func16 rfl Try.ntmps16 (by simp) (fun hsc => ?_); simp only [Lf.enter, Nat.reduceAdd]; clear hsc
 have hU := True.intro
 repeat' (first | (guard_target =~ PWp _ _ _ _ _ _ _; first | (refine pwp_seq_k (fun K hK => ?_)) | (refine pwp_block ?_) | (refine pwp_rg_then ?_)) | (guard_target =~ rg _ _ _ _ _ _ _; first | (guard_target =~ rg _ _ _ [] _ _ _; first | (refine rg_end ?_)) | (refine rg_a rfl (h := ?_))) | (refine hK _ _ ?_; clear hK K))
 refine pwp_loop_g [4, 5, 6, 7, 8, 9, 10, 11, 12, 13, 14, 15, 16, 17, 18, 19, 20, 21, 22, 23, 24, 25, 26, 27] [0] (fun i : Nat => [(5, i64 i)]) (fun _ => [.row s 28 1 (l.map bsA)]) (fun i => i ≤ l.length ∧ idxP b (l.drop i) i = -1) (fun i => l.length - i) 0 (fun _ => rfl) rfl rfl ⟨Nat.zero_le _, hi⟩ ?_ rfl (by intro s i x h; simp only [List.mem_cons, Prod.mk.injEq, List.not_mem_nil, or_false] at h; obtain ⟨rfl, _⟩ := h; decide) ?_
 ·(refine ⟨⟨_, sT, ?_⟩, trivial⟩ <;> (try (first | exact aleT)))
 ·rintro i ⟨hi, hk⟩
  simp only [mask, List.map_cons, List.map_nil, List.cons_append, List.nil_append]
  by_cases hlt : i < l.length
  ·obtain ⟨x, hd⟩ := ex_at hlt
   have hm := bs_at hd
   have hxz := hz x (List.mem_of_getElem? hd)
   rw [bs_drop hd, idxP] at hk
   have h1 : ¬ x = b := by
    intro h; rw [if_pos h] at hk; omega
   rw [if_neg h1] at hk
   have h2 : decide (x = b) = false := decide_eq_false h1
   have hU := And.intro @hm (@h2)
   repeat' (first | (guard_target =~ PWp _ _ _ _ _ _ _; first | (refine pwp_seq_k (fun K hK => ?_)) | (refine pwp_block ?_) | (refine pwp_rg_then ?_) | (refine pwp_skip ?_) | ((refine pwp_cond_d (fun hcd => ?_) (fun hcd => ?_)) <;> (try simp only [hcP] at hcd) <;> (try exact cdT))) | (guard_target =~ rg _ _ _ _ _ _ _; first | (guard_target =~ rg _ _ _ [] _ _ _; first | (refine rg_end ?_)) | (refine rg_a rfl (h := ?_)) | (refine rg_v rfl (h := ?_)) | (refine rg_s rfl ?_)) | (guard_target =~ SOp _ _ _ _ _ _; first | (guard_target =~ SOp _ _ ⟨_, .call ⟨.value (.func 24), _, _⟩, _, _, _, none⟩ _ _ _; first | (refine n_call (f := 24) rfl Try.call24 (h := AEq.pure' agT (same_is _ _ _ _ _ _ (by omega)) (hq := ?_)))) | (guard_target =~ SOp _ _ ⟨_, .indexAddr _ _ _, _, _, _, none⟩ _ _ _; first | (refine n_index_row rfl (hK := ?_)))) | (refine hK _ _ ?_; clear hK K))
   refine ⟨i + 1, ⟨by omega, hk⟩, by omega, ?_, (by repeat' (first | exact agr_refl | refine agr_cons (by rfl) ?_)), (by first | rfl | (simp (disch := omega) only [go_sem, seval, ↓reduceIte, hU]; done) | (simp (disch := omega) only [go_sem, seval, ↓reduceIte, hU]; rfl))⟩
   (refine ⟨⟨_, sT, ?_⟩, trivial⟩ <;> (try (first | exact aleT)))
  ·repeat' (first | (guard_target =~ PWp _ _ _ _ _ _ _; first | (refine pwp_seq_k (fun K hK => ?_)) | (refine pwp_rg_then ?_) | (refine pwp_ret ?_) | (refine pwp_exit ?_) | ((refine pwp_cond_d (fun hcd => ?_) (fun hcd => ?_)) <;> (try simp only [hcP] at hcd) <;> (try exact cdT))) | (guard_target =~ rg _ _ _ _ _ _ _; first | (guard_target =~ rg _ _ _ [] _ _ _; first | (refine rg_end ?_)) | (refine rg_a rfl (h := ?_)) | (refine rg_v rfl (h := ?_))) | (guard_target =~ (_ ∨ _) ∧ _; first | ((refine end_d [0] (by rw [Try.results16, Lf.res1]) (ale_1 ?_) ?_) <;> (try (first | exact aleT | exact stq (by with_reducible rfl) | exact stq (by rfl) | exact stq (by simp (disch := omega) only [go_sem, seval, ↓reduceIte, hU]))))) | (refine hK _ _ ?_; clear hK K) | (apply_assumption (exfalso := false) (symm := false)))
theorem rwithout_y (s : Nat) (l : List (List UInt8)) (g r : Bool) (b : List UInt8) (hl : l.length ≤ 1000) (hz : ∀ x ∈ l, x.length ≤ 100000) (k : Nat) (hkl : k < l.length) (hik : idxP b l 0 = k) : AEq Try.prog 16 [.row 0 s, .sl g r (b.map byteA)] [.row s 28 1 (l.map bsA)] (.row 1 1) [.row s 28 1 (l.map bsA), .row 1 28 1 ((l.eraseIdx k).map bsA)] := by
 refine acall_body Try.func16 rfl Try.ntmps16 (by simp) (fun hsc => ?_); simp only [Lf.enter, Nat.reduceAdd]; clear hsc
 have hU := True.intro
 repeat' (first | (guard_target =~ PWp _ _ _ _ _ _ _; first | (refine pwp_seq_k (fun K hK => ?_)) | (refine pwp_block ?_) | (refine pwp_rg_then ?_)) | (guard_target =~ rg _ _ _ _ _ _ _; first | (guard_target =~ rg _ _ _ [] _ _ _; first | (refine rg_end ?_)) | (refine rg_a rfl (h := ?_))) | (refine hK _ _ ?_; clear hK K))
 refine pwp_loop_g [4, 5, 6, 7, 8, 9, 10, 11, 12, 13, 14, 15, 16, 17, 18, 19, 20, 21, 22, 23, 24, 25, 26, 27] [0] (fun i : Nat => [(5, i64 i)]) (fun _ => [.row s 28 1 (l.map bsA)]) (fun i => i ≤ k ∧ idxP b (l.drop i) i = k) (fun i => l.length - i) 0 (fun _ => rfl) rfl rfl ⟨Nat.zero_le _, hik⟩ ?_ rfl (by intro s i x h; simp only [List.mem_cons, Prod.mk.injEq, List.not_mem_nil, or_false] at h; obtain ⟨rfl, _⟩ := h; decide) ?_
 ·(refine ⟨⟨_, sT, ?_⟩, trivial⟩ <;> (try (first | exact aleT)))
 ·rintro i ⟨hi, hk⟩
  simp only [mask, List.map_cons, List.map_nil, List.cons_append, List.nil_append]
  have hlt : i < l.length := by omega
  obtain ⟨x, hd⟩ := ex_at hlt
  have hm := bs_at hd
  have hxz := hz x (List.mem_of_getElem? hd)
  rw [bs_drop hd, idxP] at hk
  by_cases h1 : x = b
  ·rw [if_pos h1] at hk
   obtain rfl : i = k := by omega
   have h2 : decide (x = b) = true := decide_eq_true h1
   have h7 : List.take i (List.map bsA l) = List.map bsA (l.take i) := List.map_take.symm
   have h8 : List.drop (i + 1) (List.map bsA l) = List.map bsA (l.drop (i + 1)) := List.map_drop.symm
   have h3 : List.map bsA (l.take i) ++ List.map bsA (l.drop (i + 1)) = List.map bsA (l.eraseIdx i) := by rw [← List.map_append, List.eraseIdx_eq_take_drop_succ]
   have h5 : (i ≤ l.length) = True := eq_true (by omega)
   have h6 : i - 0 = i := Nat.sub_zero i
   have h9 : ((i : Int) + 1).toNat = i + 1 := by omega
   have h10 : (i + 1 + (l.length - (i + 1)) ≤ l.length) = True := eq_true (by omega)
   have h11 : List.take (l.length - (i + 1)) (List.map bsA (l.drop (i + 1))) = List.map bsA (l.drop (i + 1)) := List.take_of_length_le (by rw [List.length_map, List.length_drop]; omega)
   have hU := And.intro @hm ( And.intro @h2 ( And.intro @h3 ( And.intro @h5 ( And.intro @h6 ( And.intro @h7 ( And.intro @h8 ( And.intro @h9 ( And.intro @h10 (@h11)))))))))
   repeat' (first | (guard_target =~ PWp _ _ _ _ _ _ _; first | (refine pwp_draw_ord (id := 5) [0, 1, 2, 3, 4, 5, 6, 7, 8, 9, 10] [4, 9] mixed (by kernel_rfl) (by kernel_rfl) ?_) | (refine pwp_seq_k (fun K hK => ?_)) | (refine pwp_block ?_) | (refine pwp_rg_then ?_) | (refine pwp_ret ?_) | (refine pwp_skip ?_) | ((refine pwp_cond_d (fun hcd => ?_) (fun hcd => ?_)) <;> (try simp only [hcP] at hcd) <;> (try exact cdT))) | (guard_target =~ rg _ _ _ _ _ _ _; first | (guard_target =~ rg _ _ _ [] _ _ _; first | (refine rg_end ?_)) | (refine rg_v rfl (h := ?_)) | (refine rg_s rfl ?_)) | (guard_target =~ SOp _ _ _ _ _ _; first | (guard_target =~ SOp _ _ ⟨_, .call ⟨.value (.func 24), _, _⟩, _, _, _, none⟩ _ _ _; first | (refine n_call (f := 24) rfl Try.call24 (h := AEq.pure' agT (same_is _ _ _ _ _ _ (by omega)) (hq := ?_)))) | (guard_target =~ SOp _ _ ⟨_, .indexAddr _ _ _, _, _, _, none⟩ _ _ _; first | (refine n_index_row rfl (hK := ?_)))) | (guard_target =~ dw _ _ _ _ _ _ _ _ _ _; first | (guard_target =~ dw _ _ _ _ _ (0 :: _) _ _ _ _; first | (refine dw_p rfl rfl (h := (fun τ => ro_s (h := n_lit rfl (he := by first | exact eo3 | exact eo4 | exact eo5 | exact eo28 | exact eo34 | fail) (hK := ro_end ⟨rfl, rfl⟩)))) (hk := ?_))) | ((first | guard_target =~ dw _ _ _ _ _ (1 :: _) _ _ _ _ | guard_target =~ dw _ _ _ _ _ (2 :: _) _ _ _ _ | guard_target =~ dw _ _ _ _ _ (5 :: _) _ _ _ _ | guard_target =~ dw _ _ _ _ _ (6 :: _) _ _ _ _); first | (refine dw_p rfl rfl (h := (fun τ => ro_v rfl (h := ro_end ⟨rfl, rfl⟩))) (hk := ?_))) | ((first | guard_target =~ dw _ _ _ _ _ (3 :: _) _ _ _ _ | guard_target =~ dw _ _ _ _ _ (8 :: _) _ _ _ _); first | (refine dw_c rfl rfl (h := ro_s (h := n_slice_row rfl (hK := ro_end ⟨rfl, rfl⟩))) (hk := ?_)) | (refine dw_m rfl rfl (h := ro_s (h := n_slice_row rfl (hK := ro_end ⟨rfl, rfl⟩))) (h2 := allS_one (ro_s (by rfl) (n_slice_row rfl sT (by first | (simp (disch := omega) only [go_sem, seval, ↓reduceIte, hU]; done) | rfl) sT (by first | exact .inl ⟨rfl, rfl, rfl⟩ | exact .inr rfl | fail) sT (by first | (simp (disch := omega) only [go_sem, seval, ↓reduceIte, hU]; done) | rfl) (by first | exact .inl ⟨rfl, rfl⟩ | exact .inr ⟨_, _, rfl, sT⟩ | fail) (by first | exact .inl ⟨rfl, rfl⟩ | exact .inr ⟨_, _, rfl, sT⟩ | fail) (by (try simp only [List.length_map, List.length_append, List.length_cons, List.length_nil, List.length_replicate, List.length_take, List.length_drop, List.length_set]); omega) (by (try simp only [List.length_map, List.length_append, List.length_cons, List.length_nil, List.length_replicate, List.length_take, List.length_drop, List.length_set]); omega) (by (try simp only [List.length_map, List.length_append, List.length_cons, List.length_nil, List.length_replicate, List.length_take, List.length_drop, List.length_set]); omega) sT sT (ro_end ⟨rfl, rfl⟩)))) (hk := ?_))) | ((first | guard_target =~ dw _ _ _ _ _ (4 :: _) _ _ _ _ | guard_target =~ dw _ _ _ _ _ (9 :: _) _ _ _ _); first | (refine dw_w rfl rfl (h := ro_s (h := n_append_row rfl (he := by first | exact eo3 | exact eo4 | exact eo5 | exact eo28 | exact eo34 | fail) (hK := ro_end ⟨rfl, rfl⟩))) (hk := ?_)) | (refine dw_w rfl rfl (h := ro_s (h := n_append_new rfl (he := by first | exact eo3 | exact eo4 | exact eo5 | exact eo28 | exact eo34 | fail) (hne := by first | exact .inl rfl | exact .inr (by assumption) | exact .inr (by simp; done) | fail) (hK := ro_end ⟨rfl, rfl⟩))) (hk := ?_))) | (guard_target =~ dw _ _ _ _ _ (7 :: _) _ _ _ _; first | (refine dw_p rfl rfl (h := (fun τ => ro_v rfl (h := ro_end ⟨rfl, rfl⟩))) (hk := ?_))) | (guard_target =~ dw _ _ _ _ _ (10 :: _) _ _ _ _; first | (refine dw_p rfl rfl (h := (fun τ => ro_a rfl (h := ro_end ⟨rfl, rfl⟩))) (hk := ?_))) | (guard_target =~ dw _ _ _ _ _ [] _ _ _ _; first | (refine dw_nil ?_))) | (guard_target =~ (_ ∨ _) ∧ _; first | ((refine end_d [0, 1] (by rw [Try.results16, Lf.res1]) (ale_1 ?_) ?_) <;> (try (first | exact aleT | exact stq (by with_reducible rfl) | exact stq (by rfl) | exact stq (by simp (disch := omega) only [go_sem, seval, ↓reduceIte, hU]))))) | (refine hK _ _ ?_; clear hK K))
  ·rw [if_neg h1] at hk
   have h2 : decide (x = b) = false := decide_eq_false h1
   have h4 : i + 1 ≤ k := by
    rcases idxP_cases b (l.drop (i + 1)) ((i : Int) + 1) (by omega) with ⟨e, _⟩ | ⟨j, e, _, _⟩ <;> omega
   have hU := And.intro @hm (@h2)
   repeat' (first | (guard_target =~ PWp _ _ _ _ _ _ _; first | (refine pwp_seq_k (fun K hK => ?_)) | (refine pwp_block ?_) | (refine pwp_rg_then ?_) | (refine pwp_skip ?_) | ((refine pwp_cond_d (fun hcd => ?_) (fun hcd => ?_)) <;> (try simp only [hcP] at hcd) <;> (try exact cdT))) | (guard_target =~ rg _ _ _ _ _ _ _; first | (guard_target =~ rg _ _ _ [] _ _ _; first | (refine rg_end ?_)) | (refine rg_a rfl (h := ?_)) | (refine rg_v rfl (h := ?_)) | (refine rg_s rfl ?_)) | (guard_target =~ SOp _ _ _ _ _ _; first | (guard_target =~ SOp _ _ ⟨_, .call ⟨.value (.func 24), _, _⟩, _, _, _, none⟩ _ _ _; first | (refine n_call (f := 24) rfl Try.call24 (h := AEq.pure' agT (same_is _ _ _ _ _ _ (by omega)) (hq := ?_)))) | (guard_target =~ SOp _ _ ⟨_, .indexAddr _ _ _, _, _, _, none⟩ _ _ _; first | (refine n_index_row rfl (hK := ?_)))) | (refine hK _ _ ?_; clear hK K))
   refine ⟨i + 1, ⟨by omega, hk⟩, by omega, ?_, (by repeat' (first | exact agr_refl | refine agr_cons (by rfl) ?_)), (by first | rfl | (simp (disch := omega) only [go_sem, seval, ↓reduceIte, hU]; done) | (simp (disch := omega) only [go_sem, seval, ↓reduceIte, hU]; rfl))⟩
   (refine ⟨⟨_, sT, ?_⟩, trivial⟩ <;> (try (first | exact aleT)))
end Go.Proofs.Ytdalcgfnlbofdaa

