import Derived.Test.YtohbfcmmpaikhaaK17
import Derived.Test.YtohbfcmmpaikhaaK22
import Derived.Test.YtohbfcmmpaikhaaLc
set_option linter.unusedVariables false
set_option linter.unusedSimpArgs false
namespace Go.Proofs.Ytohbfcmmpaikhaa
open Go Go.Lf Go.Proofs
attribute [local irreducible] Lf.rg Lf.ro Lf.PWp Lf.SOp Lf.ACall Lf.Scoped Lf.dg Lf.dw
set_option maxRecDepth 20000
set_option maxHeartbeats 4000000
theorem slF_mod (s : Bool) : slF s % pwI 7 = 0 := by cases s <;> decide
theorem slB_len (s : Bool) (l : List UInt8) : (slB s l).length ≤ 4 * l.length := by
  cases s
  · show l.length ≤ _; omega
  · exact enc_bd l
theorem slP_len (s : Bool) (l : List UInt8) : (slP s l).length ≤ 4 * l.length + 6 := by
  have h1 := slB_len s l
  have h2 := pfxP_len (slF s) 7 ((slB s l).length : Int)
  unfold slP
  rw [List.length_append]; omega
theorem sl_back (s : Bool) (l z : List UInt8) (most : Int) (h : 4 * (l.length : Int) ≤ most) (hl : l.length ≤ 100000) : slG (slP s l ++ z) most = (l, s, ((slP s l).length : Int), 0) := by
  have hb := slB_len s l
  have hf0 : 0 ≤ slF s ∧ slF s ≤ 255 := by cases s <;> decide
  have hp := pfxP_len (slF s) 7 ((slB s l).length : Int)
  have hg := pg_back (f := slF s) (c := 7) (n := ((slB s l).length : Int)) (slB s l ++ z) (by decide) (by decide) hf0.1 hf0.2 (slF_mod s) (by omega) (by omega)
  rw [← List.append_assoc] at hg
  obtain ⟨x, r, hx, hx1, hx2⟩ := pfx_first (f := slF s) (c := 7) (n := ((slB s l).length : Int)) (by decide) (by decide) hf0.1 hf0.2 (slF_mod s) (by omega)
  have h7 : pwI 7 = 128 := pwI_7
  rw [h7] at hx2
  have hx0 : (slP s l ++ z)[0]? = some x := by unfold slP; rw [hx]; rfl
  have e : slP s l = pfxP (slF s) 7 ((slB s l).length : Int) ++ slB s l := rfl
  rw [← e] at hg
  have hlen : (slP s l ++ z).length = (pfxP (slF s) 7 ((slB s l).length : Int)).length + (slB s l).length + z.length := by rw [e, List.length_append, List.length_append]
  have hlen2 : (slP s l).length = (pfxP (slF s) 7 ((slB s l).length : Int)).length + (slB s l).length := by rw [e, List.length_append]
  have hcut : cutB (slP s l ++ z) (pfxP (slF s) 7 ((slB s l).length : Int)).length (slB s l).length = slB s l := by
    unfold cutB
    rw [e, List.append_assoc, List.drop_left, List.take_left]
  have hh := hiB_eq hx0
  have g1 : (pgG (slP s l ++ z) 7).2.2 = 0 := by rw [hg]
  have g2 : (pgG (slP s l ++ z) 7).2.1 = ((pfxP (slF s) 7 ((slB s l).length : Int)).length : Int) := by rw [hg]
  have g3 : (pgG (slP s l ++ z) 7).1 = ((slB s l).length : Int) := by rw [hg]
  have g4 : ¬ max most 0 < (pgG (slP s l ++ z) 7).1 := by rw [g3]; omega
  have g5 : ¬ ((slP s l ++ z).length : Int) - (pgG (slP s l ++ z) 7).2.1 < (pgG (slP s l ++ z) 7).1 := by rw [g2, g3, hlen]; omega
  have hln : ((pfxP (slF s) 7 ((slB s l).length : Int)).length : Int) + ((slB s l).length : Int) = ((slP s l).length : Int) := by rw [hlen2]; omega
  cases s with
  | false =>
    have hs : hiB (slP false l ++ z) = false := by rw [hh]; have : slF false = 0 := rfl; rw [this] at hx2; simp; omega
    rw [slG_lit g1 g4 g5 g2 g3 hs, hcut, hln]; rfl
  | true =>
    have hs : hiB (slP true l ++ z) = true := by rw [hh]; have : slF true = 128 := rfl; rw [this] at hx1; simp; omega
    have hd : huM (bitsL (slB true l)) 0 0 [] = (l, 0) := hu_back l
    rw [slG_cod g1 g4 g5 g2 g3 hs (by rw [hcut, hd]), hcut, hd, hln]
attribute [local irreducible] pwI pfxP pgG huM bitsL rowB encL slG cutB
theorem sget (f q : Bool) (b : List UInt8) (hb : b.length ≤ 100000) (most : Int) : AEq Try.prog 19 [.sl f q (b.map byteA), i64 most] [] (.tu [.ag [.lit (.string ⟨(slG b most).1.toArray⟩), bl (slG b most).2.1], i64 (slG b most).2.2.1, i64 (slG b most).2.2.2]) [] := sget0 f q b hb most _ _ _ _ rfl
theorem rsget0 (f q : Bool) (b : List UInt8) (hb : b.length ≤ 100000) (most : Int) (t : List UInt8) (s : Bool) (k e : Int) (htot : slG b most = (t, s, k, e)) : AEq Try.prog 20 [.sl f q (b.map byteA), i64 most] [] (.tu [.lit (.string ⟨t.toArray⟩), bl s, i64 k, i64 e]) [] := by
  have hbd := pgG_bd b (c := 7) (by decide) (by decide)
  rcases slG_cases b most with ⟨h1, h2⟩ | ⟨h1, h0, h3, h2⟩ | ⟨h1, h0, h3, h4, h2⟩ | ⟨h1, h0, h3, h4⟩
  · rw [h2] at htot
    obtain ⟨rfl, rfl, rfl, rfl⟩ : t = [] ∧ s = false ∧ k = 0 ∧ e = (pgG b 7).2.2 := by simp only [Prod.mk.injEq] at htot; exact ⟨htot.1.symm, htot.2.1.symm, htot.2.2.1.symm, htot.2.2.2.symm⟩
    refine acall_body Try.func20 rfl Try.ntmps20 (by simp) (fun hsc => ?_); simp only [Lf.enter, Nat.reduceAdd]; clear hsc
    have hU := True.intro
    repeat' (first | (guard_target =~ PWp _ _ _ _ _ _ _; first | (refine pwp_seq_k (fun K hK => ?_)) | (refine pwp_rg_then ?_) | (refine pwp_ret ?_) | ((refine pwp_cond_d (fun hcd => ?_) (fun hcd => ?_)) <;> (try simp only [hcP] at hcd) <;> (try (exfalso; first | omega | exact absurd hcd (by assumption) | exact absurd (by assumption) hcd)))) | (guard_target =~ rg _ _ _ _ _ _ _; first | (guard_target =~ rg _ _ _ [] _ _ _; first | (refine rg_end ?_)) | (refine rg_a rfl (h := ?_)) | (refine rg_x rfl (hy := rfl) (h := ?_)) | (refine rg_v rfl (h := ?_)) | (refine rg_s rfl ?_)) | (guard_target =~ SOp _ _ _ _ _ _; first | (guard_target =~ SOp _ _ ⟨_, .call ⟨.value (.func 39), _, _⟩, _, _, _, none⟩ _ _ _; first | (refine n_call (f := 39) rfl Try.call39 (h := AEq.pure' (by first | ((repeat' (first | exact trivial | (first | exact arg_lit | exact arg_sl id id | exact arg_nil | exact arg_sl (by simp) id | exact arg_sl (by simp) (fun _ => rfl) | exact arg_row_m (by rfl) (by rfl) (fun _ => rfl) | exact arg_vw_m (by rfl) (by rfl) (fun _ => rfl) | exact arg_rn (by rfl) (by rfl) | exact arg_junk | exact arg_row_mm (by rfl) (by rfl) (fun _ => rfl)) | refine ⟨?_, ?_⟩)); done) | fail) (rget18 _ _ _ (by omega) _ (by omega) (by omega)) (hq := ?_))))) | (guard_target =~ (_ ∨ _) ∧ _; first | ((refine end_d [] (by rw [Try.results20, Lf.res4]) (ale_4 ?_ ?_ ?_ ?_) ?_) <;> (try (first | exact ale_eq (by with_reducible rfl) | exact ale_full | exact ale_sl (fun _ => rfl) | exact ale_sl (by simp) | exact ale_junk | exact ale_eq rfl | exact stq (by with_reducible rfl) | exact stq (by rfl) | exact stq (by simp (disch := omega) only [go_sem, seval, ↓reduceIte, hU]))))) | (refine hK _ _ ?_; clear hK K))
    all_goals trace_state
  · rw [h2] at htot
    obtain ⟨rfl, rfl, rfl, rfl⟩ : t = [] ∧ s = false ∧ k = 0 ∧ e = 9 := by simp only [Prod.mk.injEq] at htot; exact ⟨htot.1.symm, htot.2.1.symm, htot.2.2.1.symm, htot.2.2.2.symm⟩
    refine acall_body Try.func20 rfl Try.ntmps20 (by simp) (fun hsc => ?_); simp only [Lf.enter, Nat.reduceAdd]; clear hsc
    have hU := @h1
    repeat' (first | (guard_target =~ PWp _ _ _ _ _ _ _; first | (refine pwp_seq_k (fun K hK => ?_)) | (refine pwp_rg_then ?_) | (refine pwp_ret ?_) | (refine pwp_skip ?_) | ((refine pwp_cond_d (fun hcd => ?_) (fun hcd => ?_)) <;> (try simp only [hcP] at hcd) <;> (try (exfalso; first | omega | exact absurd hcd (by assumption) | exact absurd (by assumption) hcd)))) | (guard_target =~ rg _ _ _ _ _ _ _; first | (guard_target =~ rg _ _ _ (⟨_, .binOp _ _ _ _ _, _, _, _, some _⟩ :: _) _ _ _; first | (refine rg_gq rfl (h := ?_))) | (guard_target =~ rg _ _ _ (⟨_, .move _, _, _, _, some _⟩ :: _) _ _ _; first | (refine rg_gq rfl (h := ?_))) | (guard_target =~ rg _ _ _ [] _ _ _; first | (refine rg_end ?_)) | (refine rg_a rfl (h := ?_)) | (refine rg_x rfl (hy := rfl) (h := ?_)) | (refine rg_v rfl (h := ?_)) | (refine rg_s rfl ?_)) | (guard_target =~ SOp _ _ _ _ _ _; first | (guard_target =~ SOp _ _ ⟨_, .call ⟨.value (.func 39), _, _⟩, _, _, _, none⟩ _ _ _; first | (refine n_call (f := 39) rfl Try.call39 (h := AEq.pure' (by first | ((repeat' (first | exact trivial | (first | exact arg_lit | exact arg_sl id id | exact arg_nil | exact arg_sl (by simp) id | exact arg_sl (by simp) (fun _ => rfl) | exact arg_row_m (by rfl) (by rfl) (fun _ => rfl) | exact arg_vw_m (by rfl) (by rfl) (fun _ => rfl) | exact arg_rn (by rfl) (by rfl) | exact arg_junk | exact arg_row_mm (by rfl) (by rfl) (fun _ => rfl)) | refine ⟨?_, ?_⟩)); done) | fail) (rget18 _ _ _ (by omega) _ (by omega) (by omega)) (hq := ?_))))) | (guard_target =~ (_ ∨ _) ∧ _; first | ((refine end_d [] (by rw [Try.results20, Lf.res4]) (ale_4 ?_ ?_ ?_ ?_) ?_) <;> (try (first | exact ale_eq (by with_reducible rfl) | exact ale_full | exact ale_sl (fun _ => rfl) | exact ale_sl (by simp) | exact ale_junk | exact ale_eq rfl | exact stq (by with_reducible rfl) | exact stq (by rfl) | exact stq (by simp (disch := omega) only [go_sem, seval, ↓reduceIte, hU]))))) | (refine hK _ _ ?_; clear hK K))
    all_goals trace_state
  · rw [h2] at htot
    obtain ⟨rfl, rfl, rfl, rfl⟩ : t = [] ∧ s = false ∧ k = 0 ∧ e = 3 := by simp only [Prod.mk.injEq] at htot; exact ⟨htot.1.symm, htot.2.1.symm, htot.2.2.1.symm, htot.2.2.2.symm⟩
    refine acall_body Try.func20 rfl Try.ntmps20 (by simp) (fun hsc => ?_); simp only [Lf.enter, Nat.reduceAdd]; clear hsc
    have hU := @h1
    repeat' (first | (guard_target =~ PWp _ _ _ _ _ _ _; first | (refine pwp_seq_k (fun K hK => ?_)) | (refine pwp_rg_then ?_) | (refine pwp_ret ?_) | (refine pwp_skip ?_) | ((refine pwp_cond_d (fun hcd => ?_) (fun hcd => ?_)) <;> (try simp only [hcP] at hcd) <;> (try (exfalso; first | omega | exact absurd hcd (by assumption) | exact absurd (by assumption) hcd)))) | (guard_target =~ rg _ _ _ _ _ _ _; first | (guard_target =~ rg _ _ _ (⟨_, .binOp _ _ _ _ _, _, _, _, some _⟩ :: _) _ _ _; first | (refine rg_gq rfl (h := ?_))) | (guard_target =~ rg _ _ _ (⟨_, .move _, _, _, _, some _⟩ :: _) _ _ _; first | (refine rg_gq rfl (h := ?_))) | (guard_target =~ rg _ _ _ [] _ _ _; first | (refine rg_end ?_)) | (refine rg_a rfl (h := ?_)) | (refine rg_x rfl (hy := rfl) (h := ?_)) | (refine rg_v rfl (h := ?_)) | (refine rg_s rfl ?_)) | (guard_target =~ SOp _ _ _ _ _ _; first | (guard_target =~ SOp _ _ ⟨_, .call ⟨.value (.func 39), _, _⟩, _, _, _, none⟩ _ _ _; first | (refine n_call (f := 39) rfl Try.call39 (h := AEq.pure' (by first | ((repeat' (first | exact trivial | (first | exact arg_lit | exact arg_sl id id | exact arg_nil | exact arg_sl (by simp) id | exact arg_sl (by simp) (fun _ => rfl) | exact arg_row_m (by rfl) (by rfl) (fun _ => rfl) | exact arg_vw_m (by rfl) (by rfl) (fun _ => rfl) | exact arg_rn (by rfl) (by rfl) | exact arg_junk | exact arg_row_mm (by rfl) (by rfl) (fun _ => rfl)) | refine ⟨?_, ?_⟩)); done) | fail) (rget18 _ _ _ (by omega) _ (by omega) (by omega)) (hq := ?_))))) | (guard_target =~ (_ ∨ _) ∧ _; first | ((refine end_d [] (by rw [Try.results20, Lf.res4]) (ale_4 ?_ ?_ ?_ ?_) ?_) <;> (try (first | exact ale_eq (by with_reducible rfl) | exact ale_full | exact ale_sl (fun _ => rfl) | exact ale_sl (by simp) | exact ale_junk | exact ale_eq rfl | exact stq (by with_reducible rfl) | exact stq (by rfl) | exact stq (by simp (disch := omega) only [go_sem, seval, ↓reduceIte, hU]))))) | (refine hK _ _ ?_; clear hK K))
    all_goals trace_state
  · obtain ⟨x, hx⟩ := ex_at (l := b) (i := 0) (by omega)
    have hxl := x.toNat_lt
    obtain ⟨k0, hk⟩ : ∃ j : Nat, (pgG b 7).2.1 = j := ⟨(pgG b 7).2.1.toNat, by omega⟩
    obtain ⟨n0, hn⟩ : ∃ j : Nat, (pgG b 7).1 = j := ⟨(pgG b 7).1.toNat, by omega⟩
    have h30 := h3
    have h40 := h4
    rw [hn] at h3
    rw [hk, hn] at h4
    rw [hk, hn] at hbd
    have hcl : (cutB b k0 n0).length = n0 := by unfold cutB; rw [List.length_take, List.length_drop]; omega
    have hcb : List.drop k0 (List.take ((k0 : Int) + (n0 : Int)).toNat b) = cutB b k0 n0 := by unfold cutB; rw [show ((k0 : Int) + (n0 : Int)).toNat = k0 + n0 from by omega, List.drop_take, Nat.add_sub_cancel_left]
    by_cases hlo : (x.toNat : Int) < 128
    · rw [slG_lit h1 h30 h40 hk hn (by rw [hiB_eq hx]; simp [hlo])] at htot
      obtain ⟨rfl, rfl, rfl, rfl⟩ : t = cutB b k0 n0 ∧ s = false ∧ k = (k0 : Int) + (n0 : Int) ∧ e = 0 := by simp only [Prod.mk.injEq] at htot; exact ⟨htot.1.symm, htot.2.1.symm, htot.2.2.1.symm, htot.2.2.2.symm⟩
      refine acall_body Try.func20 rfl Try.ntmps20 (by simp) (fun hsc => ?_); simp only [Lf.enter, Nat.reduceAdd]; clear hsc
      have hU := And.intro @h1 ( And.intro @hk ( And.intro @hn (@hcb)))
      repeat' (first | (guard_target =~ PWp _ _ _ _ _ _ _; first | (refine pwp_seq_k (fun K hK => ?_)) | (refine pwp_rg_then ?_) | (refine pwp_ret ?_) | (refine pwp_skip ?_) | ((refine pwp_cond_d (fun hcd => ?_) (fun hcd => ?_)) <;> (try simp only [hcP] at hcd) <;> (try (exfalso; first | omega | exact absurd hcd (by assumption) | exact absurd (by assumption) hcd)))) | (guard_target =~ rg _ _ _ _ _ _ _; first | (guard_target =~ rg _ _ _ (⟨_, .binOp _ _ _ _ _, _, _, _, some _⟩ :: _) _ _ _; first | (refine rg_gq rfl (h := ?_))) | (guard_target =~ rg _ _ _ (⟨_, .move _, _, _, _, some _⟩ :: _) _ _ _; first | (refine rg_gq rfl (h := ?_))) | (guard_target =~ rg _ _ _ [] _ _ _; first | (refine rg_end ?_)) | (refine rg_a rfl (h := ?_)) | (refine rg_x rfl (hy := rfl) (h := ?_)) | (refine rg_v rfl (h := ?_)) | (refine rg_s rfl ?_)) | (guard_target =~ SOp _ _ _ _ _ _; first | (guard_target =~ SOp _ _ ⟨_, .convert _ _ _, _, _, _, none⟩ _ _ _; first | (refine n_string rfl (hK := ?_))) | (guard_target =~ SOp _ _ ⟨_, .call ⟨.value (.func 39), _, _⟩, _, _, _, none⟩ _ _ _; first | (refine n_call (f := 39) rfl Try.call39 (h := AEq.pure' (by first | ((repeat' (first | exact trivial | (first | exact arg_lit | exact arg_sl id id | exact arg_nil | exact arg_sl (by simp) id | exact arg_sl (by simp) (fun _ => rfl) | exact arg_row_m (by rfl) (by rfl) (fun _ => rfl) | exact arg_vw_m (by rfl) (by rfl) (fun _ => rfl) | exact arg_rn (by rfl) (by rfl) | exact arg_junk | exact arg_row_mm (by rfl) (by rfl) (fun _ => rfl)) | refine ⟨?_, ?_⟩)); done) | fail) (rget18 _ _ _ (by omega) _ (by omega) (by omega)) (hq := ?_)))) | (guard_target =~ SOp _ _ ⟨_, .slice _ _ _ _ _, _, _, _, none⟩ _ _ _; first | (refine n_slice rfl (hg := (fun _ => (by simp only [go_sem, seval, ↓reduceIte, hU] <;> rfl))) (hK := ?_))) | (guard_target =~ SOp _ _ ⟨_, .indexAddr _ _ _, _, _, _, none⟩ _ _ _; first | (refine n_index rfl (hK := ?_)))) | (guard_target =~ (_ ∨ _) ∧ _; first | ((refine end_d [] (by rw [Try.results20, Lf.res4]) (ale_4 ?_ ?_ ?_ ?_) ?_) <;> (try (first | exact ale_eq (by with_reducible rfl) | exact ale_full | exact ale_sl (fun _ => rfl) | exact ale_sl (by simp) | exact ale_junk | exact ale_eq rfl | exact stq (by with_reducible rfl) | exact stq (by rfl) | exact stq (by simp (disch := omega) only [go_sem, seval, ↓reduceIte, hU]))))) | (refine hK _ _ ?_; clear hK K))
      all_goals trace_state
    · have hhi : hiB b = true := by rw [hiB_eq hx]; simp [hlo]
      by_cases h5 : (huM (bitsL (cutB b k0 n0)) 0 0 []).2 = 0
      · rw [slG_cod h1 h30 h40 hk hn hhi h5] at htot
        obtain ⟨rfl, rfl, rfl, rfl⟩ : t = (huM (bitsL (cutB b k0 n0)) 0 0 []).1 ∧ s = true ∧ k = (k0 : Int) + (n0 : Int) ∧ e = 0 := by simp only [Prod.mk.injEq] at htot; exact ⟨htot.1.symm, htot.2.1.symm, htot.2.2.1.symm, htot.2.2.2.symm⟩
        refine acall_body Try.func20 rfl Try.ntmps20 (by simp) (fun hsc => ?_); simp only [Lf.enter, Nat.reduceAdd]; clear hsc
        have hU := And.intro @h1 ( And.intro @hk ( And.intro @hn ( And.intro @hcb (@h5))))
        repeat' (first | (guard_target =~ PWp _ _ _ _ _ _ _; first | (refine pwp_seq_k (fun K hK => ?_)) | (refine pwp_rg_then ?_) | (refine pwp_ret ?_) | (refine pwp_skip ?_) | ((refine pwp_cond_d (fun hcd => ?_) (fun hcd => ?_)) <;> (try simp only [hcP] at hcd) <;> (try (exfalso; first | omega | exact absurd hcd (by assumption) | exact absurd (by assumption) hcd)))) | (guard_target =~ rg _ _ _ _ _ _ _; first | (guard_target =~ rg _ _ _ (⟨_, .binOp _ _ _ _ _, _, _, _, some _⟩ :: _) _ _ _; first | (refine rg_gq rfl (h := ?_))) | (guard_target =~ rg _ _ _ (⟨_, .move _, _, _, _, some _⟩ :: _) _ _ _; first | (refine rg_gq rfl (h := ?_))) | (guard_target =~ rg _ _ _ [] _ _ _; first | (refine rg_end ?_)) | (refine rg_a rfl (h := ?_)) | (refine rg_x rfl (hy := rfl) (h := ?_)) | (refine rg_v rfl (h := ?_)) | (refine rg_s rfl ?_)) | (guard_target =~ SOp _ _ _ _ _ _; first | (guard_target =~ SOp _ _ ⟨_, .convert _ _ _, _, _, _, none⟩ _ _ _; first | (refine n_string rfl (hK := ?_))) | (guard_target =~ SOp _ _ ⟨_, .call ⟨.value (.func 39), _, _⟩, _, _, _, none⟩ _ _ _; first | (refine n_call (f := 39) rfl Try.call39 (h := AEq.pure' (by first | ((repeat' (first | exact trivial | (first | exact arg_lit | exact arg_sl id id | exact arg_nil | exact arg_sl (by simp) id | exact arg_sl (by simp) (fun _ => rfl) | exact arg_row_m (by rfl) (by rfl) (fun _ => rfl) | exact arg_vw_m (by rfl) (by rfl) (fun _ => rfl) | exact arg_rn (by rfl) (by rfl) | exact arg_junk | exact arg_row_mm (by rfl) (by rfl) (fun _ => rfl)) | refine ⟨?_, ?_⟩)); done) | fail) (rget18 _ _ _ (by omega) _ (by omega) (by omega)) (hq := ?_)))) | (guard_target =~ SOp _ _ ⟨_, .slice _ _ _ _ _, _, _, _, none⟩ _ _ _; first | (refine n_slice rfl (hg := (fun _ => (by simp only [go_sem, seval, ↓reduceIte, hU] <;> rfl))) (hK := ?_))) | (guard_target =~ SOp _ _ ⟨_, .indexAddr _ _ _, _, _, _, none⟩ _ _ _; first | (refine n_index rfl (hK := ?_))) | (guard_target =~ SOp _ _ ⟨_, .call ⟨.value (.func 15), _, _⟩, _, _, _, none⟩ _ _ _; first | (refine n_call (f := 15) rfl Try.call15 (h := AEq.pure' (by first | ((repeat' (first | exact trivial | (first | exact arg_lit | exact arg_sl id id | exact arg_nil | exact arg_sl (by simp) id | exact arg_sl (by simp) (fun _ => rfl) | exact arg_row_m (by rfl) (by rfl) (fun _ => rfl) | exact arg_vw_m (by rfl) (by rfl) (fun _ => rfl) | exact arg_rn (by rfl) (by rfl) | exact arg_junk | exact arg_row_mm (by rfl) (by rfl) (fun _ => rfl)) | refine ⟨?_, ?_⟩)); done) | fail) (rdecode _ _ _ (by omega)) (hq := ?_))))) | (guard_target =~ (_ ∨ _) ∧ _; first | ((refine end_d [] (by rw [Try.results20, Lf.res4]) (ale_4 ?_ ?_ ?_ ?_) ?_) <;> (try (first | exact ale_eq (by with_reducible rfl) | exact ale_full | exact ale_sl (fun _ => rfl) | exact ale_sl (by simp) | exact ale_junk | exact ale_eq rfl | exact stq (by with_reducible rfl) | exact stq (by rfl) | exact stq (by simp (disch := omega) only [go_sem, seval, ↓reduceIte, hU]))))) | (refine hK _ _ ?_; clear hK K))
        all_goals trace_state
      · rw [slG_bad h1 h30 h40 hk hn hhi h5] at htot
        obtain ⟨rfl, rfl, rfl, rfl⟩ : t = [] ∧ s = false ∧ k = 0 ∧ e = (huM (bitsL (cutB b k0 n0)) 0 0 []).2 := by simp only [Prod.mk.injEq] at htot; exact ⟨htot.1.symm, htot.2.1.symm, htot.2.2.1.symm, htot.2.2.2.symm⟩
        refine acall_body Try.func20 rfl Try.ntmps20 (by simp) (fun hsc => ?_); simp only [Lf.enter, Nat.reduceAdd]; clear hsc
        have hU := And.intro @h1 ( And.intro @hk ( And.intro @hn (@hcb)))
        repeat' (first | (guard_target =~ PWp _ _ _ _ _ _ _; first | (refine pwp_seq_k (fun K hK => ?_)) | (refine pwp_rg_then ?_) | (refine pwp_ret ?_) | (refine pwp_skip ?_) | ((refine pwp_cond_d (fun hcd => ?_) (fun hcd => ?_)) <;> (try simp only [hcP] at hcd) <;> (try (exfalso; first | omega | exact absurd hcd (by assumption) | exact absurd (by assumption) hcd)))) | (guard_target =~ rg _ _ _ _ _ _ _; first | (guard_target =~ rg _ _ _ (⟨_, .binOp _ _ _ _ _, _, _, _, some _⟩ :: _) _ _ _; first | (refine rg_gq rfl (h := ?_))) | (guard_target =~ rg _ _ _ (⟨_, .move _, _, _, _, some _⟩ :: _) _ _ _; first | (refine rg_gq rfl (h := ?_))) | (guard_target =~ rg _ _ _ [] _ _ _; first | (refine rg_end ?_)) | (refine rg_a rfl (h := ?_)) | (refine rg_x rfl (hy := rfl) (h := ?_)) | (refine rg_v rfl (h := ?_)) | (refine rg_s rfl ?_)) | (guard_target =~ SOp _ _ _ _ _ _; first | (guard_target =~ SOp _ _ ⟨_, .call ⟨.value (.func 39), _, _⟩, _, _, _, none⟩ _ _ _; first | (refine n_call (f := 39) rfl Try.call39 (h := AEq.pure' (by first | ((repeat' (first | exact trivial | (first | exact arg_lit | exact arg_sl id id | exact arg_nil | exact arg_sl (by simp) id | exact arg_sl (by simp) (fun _ => rfl) | exact arg_row_m (by rfl) (by rfl) (fun _ => rfl) | exact arg_vw_m (by rfl) (by rfl) (fun _ => rfl) | exact arg_rn (by rfl) (by rfl) | exact arg_junk | exact arg_row_mm (by rfl) (by rfl) (fun _ => rfl)) | refine ⟨?_, ?_⟩)); done) | fail) (rget18 _ _ _ (by omega) _ (by omega) (by omega)) (hq := ?_)))) | (guard_target =~ SOp _ _ ⟨_, .slice _ _ _ _ _, _, _, _, none⟩ _ _ _; first | (refine n_slice rfl (hg := (fun _ => (by simp only [go_sem, seval, ↓reduceIte, hU] <;> rfl))) (hK := ?_))) | (guard_target =~ SOp _ _ ⟨_, .indexAddr _ _ _, _, _, _, none⟩ _ _ _; first | (refine n_index rfl (hK := ?_))) | (guard_target =~ SOp _ _ ⟨_, .call ⟨.value (.func 15), _, _⟩, _, _, _, none⟩ _ _ _; first | (refine n_call (f := 15) rfl Try.call15 (h := AEq.pure' (by first | ((repeat' (first | exact trivial | (first | exact arg_lit | exact arg_sl id id | exact arg_nil | exact arg_sl (by simp) id | exact arg_sl (by simp) (fun _ => rfl) | exact arg_row_m (by rfl) (by rfl) (fun _ => rfl) | exact arg_vw_m (by rfl) (by rfl) (fun _ => rfl) | exact arg_rn (by rfl) (by rfl) | exact arg_junk | exact arg_row_mm (by rfl) (by rfl) (fun _ => rfl)) | refine ⟨?_, ?_⟩)); done) | fail) (rdecode _ _ _ (by omega)) (hq := ?_))))) | (guard_target =~ (_ ∨ _) ∧ _; first | ((refine end_d [] (by rw [Try.results20, Lf.res4]) (ale_4 ?_ ?_ ?_ ?_) ?_) <;> (try (first | exact ale_eq (by with_reducible rfl) | exact ale_full | exact ale_sl (fun _ => rfl) | exact ale_sl (by simp) | exact ale_junk | exact ale_eq rfl | exact stq (by with_reducible rfl) | exact stq (by rfl) | exact stq (by simp (disch := omega) only [go_sem, seval, ↓reduceIte, hU]))))) | (refine hK _ _ ?_; clear hK K))
        all_goals trace_state
theorem rsget (f q : Bool) (b : List UInt8) (hb : b.length ≤ 100000) (most : Int) : AEq Try.prog 20 [.sl f q (b.map byteA), i64 most] [] (.tu [.lit (.string ⟨(slG b most).1.toArray⟩), bl (slG b most).2.1, i64 (slG b most).2.2.1, i64 (slG b most).2.2.2]) [] := rsget0 f q b hb most _ _ _ _ rfl
end Go.Proofs.Ytohbfcmmpaikhaa
