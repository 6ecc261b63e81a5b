import Derived.Test.YtohbfcmmpaikhaaDoorTy
import Derived.Test.YtohbfcmmpaikhaaDoorLc
set_option linter.unusedVariables false
set_option linter.unusedSimpArgs false
namespace Go.Proofs.YtohbfcmmpaikhaaDoor
open Go Go.Lf Go.Proofs
attribute [local irreducible] Lf.rg Lf.ro Lf.PWp Lf.SOp Lf.ACall Lf.Scoped Lf.dg Lf.dw
set_option maxRecDepth 20000
set_option maxHeartbeats 4000000
theorem take_snoc {α : Type} {l : List α} {i : Nat} {x : α} (h : l[i]? = some x) : l.take (i + 1) = l.take i ++ [x] := by
  rw [List.take_add_one, h]; rfl
theorem same_is (f g q r : Bool) (a b : List UInt8) (hb : a.length ≤ 4000000000000000000) : AEq Tryd.prog 19 [.sl f q (a.map byteA), .sl g r (b.map byteA)] [] (bl (decide (a = b))) [] := by
  by_cases h : a.length = b.length
  · refine acall_body Tryd.func19 rfl Tryd.ntmps19 (by simp) (fun hsc => ?_); simp only [Lf.enter, Nat.reduceAdd]; clear hsc
    have hU := True.intro
    repeat' (first | (guard_target =~ PWp _ _ _ _ _ _ _; first | (refine pwp_seq_k (fun K hK => ?_)) | (refine pwp_block ?_) | (refine pwp_rg_then ?_) | (refine pwp_skip ?_) | ((refine pwp_cond_d (fun hcd => ?_) (fun hcd => ?_)) <;> (try simp only [hcP] at hcd) <;> (try (exfalso; first | omega | exact absurd hcd (by assumption) | exact absurd (by assumption) hcd)))) | (guard_target =~ rg _ _ _ _ _ _ _; first | (guard_target =~ rg _ _ _ [] _ _ _; first | (refine rg_end ?_)) | (refine rg_a rfl (h := ?_)) | (refine rg_v rfl (h := ?_))) | (refine hK _ _ ?_; clear hK K))
    refine pwp_loop_e [4, 5, 11, 12, 13, 14, 15, 16, 17, 18, 19, 20, 21, 22, 23, 24, 25] (fun i : Nat => [(5, i64 i)]) (fun _ => []) (fun i => i ≤ a.length ∧ a.take i = b.take i) (fun i => a.length - i) 0 ⟨Nat.zero_le _, rfl⟩ ?_ rfl ?_
    · (refine ⟨⟨_, (by (try simp (disch := omega) only [go_sem, seval, ↓reduceIte, hU]) <;> rfl), ?_⟩, trivial⟩ <;> (try (first | exact ale_eq (by with_reducible rfl) | exact ale_full | exact ale_sl (fun _ => rfl) | exact ale_sl (by simp) | exact ale_junk | exact ale_eq rfl)))
    · rintro i ⟨hi, ht⟩
      simp only [mask, List.map_cons, List.map_nil, List.cons_append, List.nil_append]
      by_cases hlt : i < a.length
      · obtain ⟨x, hx⟩ : ∃ x, a[i]? = some x := ⟨a[i], List.getElem?_eq_getElem hlt⟩
        obtain ⟨y, hy⟩ : ∃ y, b[i]? = some y := ⟨b[i], List.getElem?_eq_getElem (by omega)⟩
        repeat' (first | (guard_target =~ PWp _ _ _ _ _ _ _; first | (refine pwp_seq_k (fun K hK => ?_)) | (refine pwp_block ?_) | (refine pwp_rg_then ?_) | (refine pwp_draw mixed (by kernel_rfl) ?_) | (refine pwp_ret ?_) | (refine pwp_skip ?_) | ((refine pwp_cond_d (fun hcd => ?_) (fun hcd => ?_)) <;> (try simp only [hcP] at hcd) <;> (try (exfalso; first | omega | exact absurd hcd (by assumption) | exact absurd (by assumption) hcd)))) | (guard_target =~ rg _ _ _ _ _ _ _; first | (guard_target =~ rg _ _ _ [] _ _ _; first | (refine rg_end ?_)) | (refine rg_a rfl (h := ?_)) | (refine rg_v rfl (h := ?_))) | (guard_target =~ dg _ _ _ _ _ _ _; first | (guard_target =~ dg _ _ _ (⟨_, .move _, _, _, _, none⟩ :: _) _ _ _; first | (refine dg_v rfl (hk := ?_))) | (guard_target =~ dg _ _ _ (⟨_, .binOp _ _ _ _ _, _, _, _, none⟩ :: _) _ _ _; first | (refine dg_v rfl (hk := ?_))) | (guard_target =~ dg _ _ _ (⟨_, .call ⟨.builtin .len, _, _⟩, _, _, _, none⟩ :: _) _ _ _; first | (refine dg_v rfl (hk := ?_))) | (guard_target =~ dg _ _ _ (⟨_, .indexAddr _ _ _, _, _, _, none⟩ :: _) _ _ _; first | (refine dg_c (x := _) (h := ro_s (h := n_index rfl (hK := ro_end ⟨rfl, rfl⟩))) (hk := ?_))) | (guard_target =~ dg _ _ _ (⟨_, .load _ _, _, _, _, none⟩ :: _) _ _ _; first | (refine dg_v rfl (hk := ?_))) | (guard_target =~ dg _ _ _ [] _ _ _; first | (refine dg_nil ?_))) | (guard_target =~ (_ ∨ _) ∧ _; first | ((refine end_d [] (by rw [Tryd.results19, Lf.res1]) (ale_1 ?_) ?_) <;> (try (first | exact ale_eq (by with_reducible rfl) | exact ale_full | exact ale_sl (fun _ => rfl) | exact ale_sl (by simp) | exact ale_junk | exact ale_eq rfl | exact stq (by with_reducible rfl) | exact stq (by rfl) | exact stq (by simp (disch := omega) only [go_sem, seval, ↓reduceIte, hU]))))) | (refine hK _ _ ?_; clear hK K))
        · have hne : a ≠ b := by
            rintro rfl
            rw [hx] at hy
            cases hy
            exact hcd rfl
          exact ale_eq (by simp [hne])
        · have hxy : x = y := UInt8.toNat_inj.1 (by omega)
          refine ⟨i + 1, ⟨by omega, by rw [take_snoc hx, take_snoc hy, ht, hxy]⟩, by omega, ?_, (by repeat' (first | exact agr_refl | refine agr_cons (by rfl) ?_)), rfl⟩
          (refine ⟨⟨_, (by (try simp (disch := omega) only [go_sem, seval, ↓reduceIte, hU]) <;> rfl), ?_⟩, trivial⟩ <;> (try (first | exact ale_eq (by with_reducible rfl) | exact ale_full | exact ale_sl (fun _ => rfl) | exact ale_sl (by simp) | exact ale_junk | exact ale_eq rfl)))
      · have hab : a = b := by
          have h1 : a.take i = a := List.take_of_length_le (by omega)
          have h2 : b.take i = b := List.take_of_length_le (by omega)
          rw [← h1, ← h2]; exact ht
        subst hab
        repeat' (first | (guard_target =~ PWp _ _ _ _ _ _ _; first | (refine pwp_seq_k (fun K hK => ?_)) | (refine pwp_rg_then ?_) | (refine pwp_ret ?_) | (refine pwp_exit ?_) | ((refine pwp_cond_d (fun hcd => ?_) (fun hcd => ?_)) <;> (try simp only [hcP] at hcd) <;> (try (exfalso; first | omega | exact absurd hcd (by assumption) | exact absurd (by assumption) hcd)))) | (guard_target =~ rg _ _ _ _ _ _ _; first | (guard_target =~ rg _ _ _ [] _ _ _; first | (refine rg_end ?_)) | (refine rg_a rfl (h := ?_)) | (refine rg_v rfl (h := ?_))) | (guard_target =~ (_ ∨ _) ∧ _; first | ((refine end_d [] (by rw [Tryd.results19, Lf.res1]) (ale_1 ?_) ?_) <;> (try (first | exact ale_eq (by with_reducible rfl) | exact ale_full | exact ale_sl (fun _ => rfl) | exact ale_sl (by simp) | exact ale_junk | exact ale_eq rfl | exact stq (by with_reducible rfl) | exact stq (by rfl) | exact stq (by simp (disch := omega) only [go_sem, seval, ↓reduceIte, hU]))))) | (refine hK _ _ ?_; clear hK K) | (apply_assumption (exfalso := false) (symm := false)))
        exact ale_eq (by simp)
  · have : a ≠ b := fun e => h (by rw [e])
    rw [show decide (a = b) = false by simp [this]]
    refine acall_body Tryd.func19 rfl Tryd.ntmps19 (by simp) (fun hsc => ?_); simp only [Lf.enter, Nat.reduceAdd]; clear hsc
    have hU := True.intro
    repeat' (first | (guard_target =~ PWp _ _ _ _ _ _ _; first | (refine pwp_seq_k (fun K hK => ?_)) | (refine pwp_rg_then ?_) | (refine pwp_ret ?_) | ((refine pwp_cond_d (fun hcd => ?_) (fun hcd => ?_)) <;> (try simp only [hcP] at hcd) <;> (try (exfalso; first | omega | exact absurd hcd (by assumption) | exact absurd (by assumption) hcd)))) | (guard_target =~ rg _ _ _ _ _ _ _; first | (guard_target =~ rg _ _ _ [] _ _ _; first | (refine rg_end ?_)) | (refine rg_a rfl (h := ?_)) | (refine rg_v rfl (h := ?_))) | (guard_target =~ (_ ∨ _) ∧ _; first | ((refine end_d [] (by rw [Tryd.results19, Lf.res1]) (ale_1 ?_) ?_) <;> (try (first | exact ale_eq (by with_reducible rfl) | exact ale_full | exact ale_sl (fun _ => rfl) | exact ale_sl (by simp) | exact ale_junk | exact ale_eq rfl | exact stq (by with_reducible rfl) | exact stq (by rfl) | exact stq (by simp (disch := omega) only [go_sem, seval, ↓reduceIte, hU]))))) | (refine hK _ _ ?_; clear hK K))
theorem clone_b (f q : Bool) (l : List UInt8) (h : l.length ≤ 100000000000000) : AEq Tryd.prog 122 [.sl f q (l.map byteA)] [] (.sl false false (l.map byteA)) [] := by
  refine acall_body Tryd.func122 rfl Tryd.ntmps122 (by simp) (fun hsc => ?_); simp only [Lf.enter, Nat.reduceAdd]; clear hsc
  have hU := True.intro
  repeat' (first | (guard_target =~ PWp _ _ _ _ _ _ _; first | (refine pwp_seq_k (fun K hK => ?_)) | (refine pwp_rg_then ?_) | (refine pwp_ret ?_) | (refine pwp_skip ?_) | ((refine pwp_cond_d (fun hcd => ?_) (fun hcd => ?_)) <;> (try simp only [hcP] at hcd) <;> (try (exfalso; first | omega | exact absurd hcd (by assumption) | exact absurd (by assumption) hcd)))) | (guard_target =~ rg _ _ _ _ _ _ _; first | (guard_target =~ rg _ _ _ [] _ _ _; first | (refine rg_end ?_)) | (refine rg_a rfl (h := ?_)) | (refine rg_v rfl (h := ?_)) | (refine rg_s rfl ?_)) | (guard_target =~ SOp _ _ _ _ _ _; first | (guard_target =~ SOp _ _ ⟨_, .binOp _ _ _ _ _, _, _, _, none⟩ _ _ _; first | (refine n_eqnil (ne := false) rfl (hx := ⟨_, (by (try simp (disch := omega) only [go_sem, seval, ↓reduceIte, hU]) <;> rfl), rfl⟩) (hK := (fun b hb => ?_)))) | (guard_target =~ SOp _ _ ⟨_, .buildSlice _ _ _, _, _, _, none⟩ _ _ _; first | (refine n_lit rfl (he := by first | exact eo4 | exact eo5 | exact eo22 | fail) (hK := ?_))) | (guard_target =~ SOp _ _ ⟨_, .call ⟨.builtin .append, _, _⟩, _, _, _, none⟩ _ _ _; first | (refine n_append_new rfl (he := by first | exact eo4 | exact eo5 | exact eo22 | fail) (hK := ?_)))) | (guard_target =~ (_ ∨ _) ∧ _; first | ((refine end_d [] (by rw [Tryd.results122, Lf.res1]) (ale_1 ?_) ?_) <;> (try (first | exact ale_eq (by with_reducible rfl) | exact ale_full | exact ale_sl (fun _ => rfl) | exact ale_sl (by simp) | exact ale_junk | exact ale_eq rfl | exact stq (by with_reducible rfl) | exact stq (by rfl) | exact stq (by simp (disch := omega) only [go_sem, seval, ↓reduceIte, hU]))))) | (refine hK _ _ ?_; clear hK K))
  · have : l = [] := by
      cases l with
      | nil => rfl
      | cons x l => simp_all
    subst this
    exact ale_sl (by simp)
end Go.Proofs.YtohbfcmmpaikhaaDoor
