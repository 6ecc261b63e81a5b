import Derived.Test.YtideijigonjohaaC07
import Derived.Test.YtideijigonjohaaC09
import Derived.Test.YtideijigonjohaaLc
set_option linter.unusedVariables false
set_option linter.unusedSimpArgs false
namespace Go.Proofs.Ytideijigonjohaa
open Go Go.Lf Go.Proofs
attribute [local irreducible] Lf.rg Lf.ro Lf.PWp Lf.SOp Lf.ACall Lf.Scoped Lf.dg Lf.dw
set_option maxRecDepth 20000
set_option maxHeartbeats 4000000
theorem cgc2 : True := trivial
def aB : List UInt8 := [0, 0, 0, 4, 1, 0, 0, 0, 0, 0, 0, 1]
def aF : List Fr := [⟨1, 4, 1, 0, false, []⟩]
def aL : List UInt8 := [0, 0, 1]
def aFF : List (Bool × Fr) := [(true, ⟨1, 4, 1, 0, false, []⟩)]
theorem aB_fr : frB 1 aB = ⟨1, 4, 1, 0, false, []⟩ := by decide +kernel
theorem aB_dr : aB.drop (9 + hdN aB) = aL := by decide +kernel
theorem aB_cut : cutQ 1 2 [] [] aB = (aF, false, aL) := by
  unfold cutQ
  rw [if_neg (by decide), if_pos rfl, List.nil_append, cutP_f, cutH_yes (by decide +kernel) (by decide +kernel), aB_fr, aB_dr, cutH_no (by decide)]
  rfl
theorem aL_ph : phL false aL = 2 ∧ hvL false aL = aL := phL_f (by decide)
theorem aL_len : ((aL.length : Nat) : Int) = 3 := rfl
theorem xE_len : ((xE.length : Nat) : Int) = 0 := rfl
theorem aF_bd : ∀ x ∈ aF, x.b.length ≤ 1000000000 := by
  intro x hx
  obtain rfl : x = ⟨1, 4, 1, 0, false, []⟩ := by simpa [aF] using hx
  exact Nat.zero_le _
theorem aF_len : aF.length ≤ 1000000000 := by decide
theorem rfall_nn (f q f' q' : Bool) : AEq Try.prog 96 [.sl f q [], .sl f' q' []] [] (bl true) [] := by
  refine acall_body Try.func96 rfl Try.ntmps96 (by simp) (fun hsc => ?_); simp only [Lf.enter, Nat.reduceAdd]; clear hsc
  have hU := True.intro
  repeat' (first | (guard_target =~ PWp _ _ _ _ _ _ _; first | (refine pwp_seq_k (fun K hK => ?_)) | (refine pwp_block ?_) | (refine pwp_rg_then ?_) | (refine pwp_skip ?_) | ((refine pwp_cond_d (fun hcd => ?_) (fun hcd => ?_)) <;> (try simp only [hcP] at hcd) <;> (try (exfalso; first | omega | exact absurd hcd (by assumption) | exact absurd (by assumption) hcd)))) | (guard_target =~ rg _ _ _ _ _ _ _; first | (guard_target =~ rg _ _ _ [] _ _ _; first | (refine rg_end ?_)) | (refine rg_a rfl (h := ?_)) | (refine rg_v rfl (h := ?_))) | (refine hK _ _ ?_; clear hK K))
  refine pwp_loop_e [4, 5, 11, 12, 13, 14, 15, 16, 17, 18, 19, 20, 21, 22, 23, 24, 25, 26] (fun i : Nat => [(5, i64 i)]) (fun _ => []) (fun i => i = 0) (fun i => 0) 0 rfl ?_ rfl ?_
  · (refine ⟨⟨_, (by (try simp (disch := omega) only [go_sem, seval, ↓reduceIte, hU]) <;> rfl), ?_⟩, trivial⟩ <;> (try (first | exact ale_eq (by with_reducible rfl) | exact ale_full | exact ale_sl (fun _ => rfl) | exact ale_sl (by simp) | exact ale_junk | exact ale_eq rfl)))
  · rintro i rfl
    simp only [mask, List.map_cons, List.map_nil, List.cons_append, List.nil_append]
    repeat' (first | (guard_target =~ PWp _ _ _ _ _ _ _; first | (refine pwp_seq_k (fun K hK => ?_)) | (refine pwp_rg_then ?_) | (refine pwp_ret ?_) | (refine pwp_exit ?_) | ((refine pwp_cond_d (fun hcd => ?_) (fun hcd => ?_)) <;> (try simp only [hcP] at hcd) <;> (try (exfalso; first | omega | exact absurd hcd (by assumption) | exact absurd (by assumption) hcd)))) | (guard_target =~ rg _ _ _ _ _ _ _; first | (guard_target =~ rg _ _ _ [] _ _ _; first | (refine rg_end ?_)) | (refine rg_a rfl (h := ?_)) | (refine rg_v rfl (h := ?_))) | (guard_target =~ (_ ∨ _) ∧ _; first | ((refine end_d [] (by rw [Try.results96, Lf.res1]) (ale_1 ?_) ?_) <;> (try (first | exact ale_eq (by with_reducible rfl) | exact ale_full | exact ale_sl (fun _ => rfl) | exact ale_sl (by simp) | exact ale_junk | exact ale_eq rfl | exact stq (by with_reducible rfl) | exact stq (by rfl) | exact stq (by simp (disch := omega) only [go_sem, seval, ↓reduceIte, hU]))))) | (refine hK _ _ ?_; clear hK K) | (apply_assumption (exfalso := false) (symm := false)))
theorem calive : AEq Try.prog 92 [] [] (bl true) [] := by
  obtain ⟨gT, hgT⟩ : ∃ gT, gQ 2 [] [] aB gE = gT := ⟨_, rfl⟩
  have htot := aB_cut
  obtain ⟨hpt, hvt⟩ := aL_ph
  have hbd := aF_bd
  have hln := aF_len
  have hab : aB.length ≤ 1000000 := by decide
  have hab2 : aF = aFF.map Prod.snd := rfl
  refine acall_body Try.func92 rfl Try.ntmps92 (by simp) (fun hsc => ?_); simp only [Lf.enter, Nat.reduceAdd]; clear hsc
  have hU := And.intro @hpt ( And.intro @hvt ( And.intro @aL_len (@xE_len)))
  repeat' (first | (guard_target =~ PWp _ _ _ _ _ _ _; first | (refine pwp_seq_k (fun K hK => ?_)) | (refine pwp_rg_then ?_) | (refine pwp_ret ?_)) | (guard_target =~ rg _ _ _ _ _ _ _; first | (guard_target =~ rg _ _ _ (⟨_, .move _, _, _, _, some _⟩ :: _) _ _ _; first | (refine rg_gtp rfl (h := ?_)) | (refine rg_gt rfl (h := ?_))) | (guard_target =~ rg _ _ _ (⟨_, .binOp _ _ _ _ _, _, _, _, some _⟩ :: _) _ _ _; first | (refine rg_gtp rfl (h := ?_)) | (refine rg_gt rfl (h := ?_))) | (guard_target =~ rg _ _ _ (⟨_, .buildSlice _ _ _, _, _, _, none⟩ :: _) _ _ _; first | (refine rg_s rfl ?_)) | (guard_target =~ rg _ _ _ (⟨_, .build _ _, _, _, _, none⟩ :: _) _ _ _; first | (refine rg_s rfl ?_)) | (guard_target =~ rg _ _ _ (⟨_, .call ⟨.value (.func 97), _, _⟩, _, _, _, some _⟩ :: _) _ _ _; first | (refine rg_gtp rfl (h := ?_)) | (refine rg_gt rfl (h := ?_))) | (guard_target =~ rg _ _ _ (⟨_, .call ⟨.value (.func 96), _, _⟩, _, _, _, none⟩ :: _) _ _ _; first | (refine rg_s rfl ?_)) | (guard_target =~ rg _ _ _ (⟨_, .call ⟨.value (.func 93), _, _⟩, _, _, _, none⟩ :: _) _ _ _; first | (refine rg_s rfl ?_)) | (guard_target =~ rg _ _ _ (⟨_, .call ⟨.value (.func 95), _, _⟩, _, _, _, none⟩ :: _) _ _ _; first | (refine rg_s rfl ?_)) | (guard_target =~ rg _ _ _ [] _ _ _; first | (refine rg_end ?_)) | (refine rg_a rfl (h := ?_)) | (refine rg_x rfl (hy := rfl) (h := ?_)) | (refine rg_v rfl (h := ?_))) | (guard_target =~ SOp _ _ _ _ _ _; first | (guard_target =~ SOp _ _ ⟨_, .buildSlice _ _ _, _, _, _, none⟩ _ _ _; first | (refine n_lit (xs := List.map (byteA) (aB)) rfl (he := by first | exact eo3 | exact eo4 | exact eo5 | exact eo33 | exact eo34 | exact eo133 | exact eo145 | exact eo152 | exact eo153 | exact eo165 | exact eo166 | exact eo168 | fail) (hc := by first | rfl | assumption | (simp (disch := omega) only [go_sem, seval, ↓reduceIte, hU]; rfl)) (hK := ?_)) | (refine n_lit (xs := List.map (frF) (aFF)) rfl (he := by first | exact eo3 | exact eo4 | exact eo5 | exact eo33 | exact eo34 | exact eo133 | exact eo145 | exact eo152 | exact eo153 | exact eo165 | exact eo166 | exact eo168 | fail) (hc := by first | rfl | assumption | (simp (disch := omega) only [go_sem, seval, ↓reduceIte, hU]; rfl)) (hK := ?_))) | (guard_target =~ SOp _ _ ⟨_, .build _ _, _, _, _, none⟩ _ _ _; first | (refine n_build rfl (by first | exact bd133 | exact bd152 | exact bd165 | exact bd166 | exact bd168 | fail) (hK := ?_))) | (guard_target =~ SOp _ _ ⟨_, .call ⟨.value (.func 97), _, _⟩, _, _, _, some _⟩ _ _ _; first | (refine n_call (f := 97) rfl Try.call97 (h := AEq.sub' [_, _, _] (hc := cleft1_n _ _ _ _ _ _ _ _ _ _ (by first | assumption | omega)) (hq := ?_))) | (refine n_call (f := 97) rfl Try.call97 (h := AEq.sub' [_, _, _] (hc := cleft0_n _ _ _ _ _ _ _ _ _ _ (by first | assumption | omega)) (hq := ?_)))) | (guard_target =~ SOp _ _ ⟨_, .call ⟨.value (.func 96), _, _⟩, _, _, _, none⟩ _ _ _; first | (refine n_call (f := 96) rfl Try.call96 (h := AEq.pure' (by first | ((repeat' (first | exact trivial | (first | exact arg_lit | exact arg_sl id id | exact arg_nil | exact arg_sl (by simp) id | exact arg_sl (by simp) (fun _ => rfl) | exact arg_row_m (by rfl) (by rfl) (fun _ => rfl) | exact arg_vw_m (by rfl) (by rfl) (fun _ => rfl) | exact arg_rn (by rfl) (by rfl) | exact arg_junk | exact arg_row_mm (by rfl) (by rfl) (fun _ => rfl)) | refine ⟨?_, ?_⟩)); done) | fail) (rfall_f _ _ _ _ _ _ (by first | assumption | omega) (by first | assumption | omega) (by first | assumption | omega)) (hq := ?_)))) | (guard_target =~ SOp _ _ ⟨_, .call ⟨.value (.func 93), _, _⟩, _, _, _, none⟩ _ _ _; first | (refine n_call (f := 93) rfl Try.call93 (h := AEq.sub' [] (hc := cnew_r) (hq := ?_)))) | (guard_target =~ SOp _ _ ⟨_, .call ⟨.value (.func 95), _, _⟩, _, _, _, none⟩ _ _ _; first | (refine n_call (f := 95) rfl Try.call95 (h := AEq.sub' [_, _, _] (hc := cfeedB1 _ _ _ _ _ _ _ _ _ _ _ _ _ _ _ _ (by first | assumption | omega) (by first | assumption | omega) (by first | assumption | omega) (by first | assumption | omega)) (hq := ?_))))) | (guard_target =~ (_ ∨ _) ∧ _; first | ((refine end_d [] (by rw [Try.results92, Lf.res1]) (ale_1 ?_) ?_) <;> (try (first | exact ale_eq (by with_reducible rfl) | exact ale_full | exact ale_sl (fun _ => rfl) | exact ale_sl (by simp) | exact ale_junk | exact ale_eq rfl | exact stq (by with_reducible rfl) | exact stq (by rfl) | exact stq (by simp (disch := omega) only [go_sem, seval, ↓reduceIte, hU]))))) | (refine hK _ _ ?_; clear hK K))
end Go.Proofs.Ytideijigonjohaa
