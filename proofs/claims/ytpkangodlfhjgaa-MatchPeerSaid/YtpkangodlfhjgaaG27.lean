import Derived.Test.YtpkangodlfhjgaaG26
import Derived.Test.YtpkangodlfhjgaaG02
import Derived.Test.YtpkangodlfhjgaaLc
set_option linter.unusedVariables false
set_option linter.unusedSimpArgs false
namespace Go.Proofs.Ytpkangodlfhjgaa
open Go Go.Lf Go.Proofs
attribute [local irreducible] Lf.rg Lf.ro Lf.PWp Lf.SOp Lf.ACall Lf.Scoped Lf.dg Lf.dw
set_option maxRecDepth 20000
set_option maxHeartbeats 4000000
theorem tell_em {w t g s : Int} {B : List UInt8} {p : Int} {d : List UInt8} {e : List (Int × Int)} {wt pa : Int} {al : Bool} {pr la co sp : Int} (h : EmOk w t g s p d e wt pa al pr la co sp) (hB : wrB t g p d e wt pa al pr la co sp = B) (st : Int) :
    tellM t g s false B st = if t = 7 then (2, co, true) else if t = 3 ∧ s = st then (1, co, true) else (0, 0, false) := by
  obtain ⟨_, _, hk, hf, he⟩ := h
  rw [hB] at hk hf he
  have hc : co = (rfM t g s B).co := congrArg Gm.co he
  unfold tellM
  rw [if_pos ⟨decide_eq_true hk, hf⟩, ← hc]
theorem reac_ga {w st c : Int} (hw : w = 0 ∨ w = 1) (hc : 0 ≤ c ∧ c ≤ 13) : reacM (oneR w 7 0 0 (gaB c)) w st = (2, c, true) := by
  have h := tell_em (em_ga hw hc) rfl st
  have h2 : tellM 7 0 0 false (gaB c) st = (2, c, true) := h
  unfold oneR reacM
  dsimp only
  rw [h2, if_pos ⟨rfl, rfl⟩]
theorem reac_rs {w st c : Int} (hw : w = 0 ∨ w = 1) (hs : 1 ≤ st) (hs2 : st ≤ 2147483647) (hc : 0 ≤ c ∧ c ≤ 13) : reacM (oneR w 3 0 st (rsB c)) w st = (1, c, true) := by
  have h := tell_em (em_rs hw hs hs2 hc) rfl st
  have h2 : tellM 3 0 st false (rsB c) st = (1, c, true) := by
    refine Eq.trans h ?_
    rw [if_neg (by decide), if_pos ⟨rfl, rfl⟩]
  unfold oneR reacM
  dsimp only
  rw [h2, if_pos ⟨rfl, rfl⟩]
theorem reac_pi {w st : Int} (hw : w = 0 ∨ w = 1) (l : List Fr) : reacM (oneR w 6 0 0 piB ++ l) w st = reacM l w st := by
  have h := tell_em (em_pi hw) rfl st
  have h2 : tellM 6 0 0 false piB st = (0, 0, false) := by
    refine Eq.trans h ?_
    rw [if_neg (by decide), if_neg (by rintro ⟨h, _⟩; exact absurd h (by decide))]
  show reacM (⟨false, w, 6, 0, 0, false, piB⟩ :: l) w st = _
  rw [reacM]
  dsimp only
  rw [h2, if_neg (by simp)]
theorem reac_wi {w st : Int} (hw : w = 0 ∨ w = 1) : reacM (oneR w 8 0 0 wiB) w st = (0, 0, false) := by
  have h := tell_em (em_wi hw) rfl st
  have h2 : tellM 8 0 0 false wiB st = (0, 0, false) := by
    refine Eq.trans h ?_
    rw [if_neg (by decide), if_neg (by rintro ⟨h, _⟩; exact absurd h (by decide))]
  unfold oneR reacM
  dsimp only
  rw [h2, if_neg (by simp)]
  rfl
theorem reac_react {w st m : Int} (hw : w = 0 ∨ w = 1) (hs : 1 ≤ st) (hs2 : st ≤ 2147483647) (hm : 0 ≤ m) :
    (m % 5 = 1 ∧ reacM (reactR w st m) w st = (2, m / 5 % 14, true)) ∨ (m % 5 = 2 ∧ reacM (reactR w st m) w st = (1, m / 5 % 14, true)) ∨ (m % 5 = 3 ∧ reacM (reactR w st m) w st = (2, m / 5 % 14, true)) ∨ (m % 5 = 4 ∧ reacM (reactR w st m) w st = (0, 0, false)) ∨ (m % 5 = 0 ∧ reacM (reactR w st m) w st = (0, 0, false)) := by
  have hc : 0 ≤ m / 5 % 14 ∧ m / 5 % 14 ≤ 13 := by omega
  rcases react_cases (w := w) (st := st) (n := m) (m := m) (by omega) (by omega) with ⟨h5, e⟩ | ⟨h5, e⟩ | ⟨h5, e⟩ | ⟨h5, e⟩ | ⟨h5, e⟩
  · exact .inl ⟨h5, by rw [e]; exact reac_ga hw hc⟩
  · exact .inr (.inl ⟨h5, by rw [e]; exact reac_rs hw hs hs2 hc⟩)
  · exact .inr (.inr (.inl ⟨h5, by rw [e, reac_pi hw]; exact reac_ga hw hc⟩))
  · exact .inr (.inr (.inr (.inl ⟨h5, by rw [e]; exact reac_wi hw⟩)))
  · exact .inr (.inr (.inr (.inr ⟨h5, by rw [e]; rfl⟩)))
theorem law_mpeer (w st n : Int) (hn0 : 0 ≤ n) (hn2 : n ≤ 65535) : AEq Try.prog 12 [i64 w, i64 st, .lit (.int .u16 n)] [] (bl true) [] := by
  have hn1 : n ≤ 9223372036854775807 := by omega
  by_cases hbad : ¬ (w = 0 ∨ w = 1) ∨ st < 1 ∨ 2147483647 < st
  · have hb2 : (¬ w = 0 ∧ ¬ w = 1) ∨ (w = 0 ∧ st < 1) ∨ (w = 1 ∧ st < 1) ∨ (w = 0 ∧ 1 ≤ st ∧ 2147483647 < st) ∨ (w = 1 ∧ 1 ≤ st ∧ 2147483647 < st) := by omega
    rcases hb2 with ⟨h0, h1⟩ | ⟨rfl, h⟩ | ⟨rfl, h⟩ | ⟨rfl, h, h2⟩ | ⟨rfl, h, h2⟩
    all_goals (refine acall_body Try.func12 rfl Try.ntmps12 (by simp) (fun hsc => ?_); simp only [Lf.enter, Nat.reduceAdd]; clear hsc)
    all_goals (have hU := True.intro)
    all_goals (repeat' (first | (guard_target =~ PWp _ _ _ _ _ _ _; first | (refine pwp_seq_k (fun K hK => ?_)) | (refine pwp_rg_then ?_) | (refine pwp_ret ?_) | ((refine pwp_cond_d (fun hcd => ?_) (fun hcd => ?_)) <;> (try simp only [hcP] at hcd) <;> (try (exfalso; first | omega | exact absurd hcd (by assumption) | exact absurd (by assumption) hcd)))) | (guard_target =~ rg _ _ _ _ _ _ _; first | (guard_target =~ rg _ _ _ (⟨_, .move _, _, _, _, some _⟩ :: _) _ _ _; first | (refine rg_gtp rfl (h := ?_)) | (refine rg_gf rfl (hn := rfl) (h := ?_)) | (refine rg_gq rfl (h := ?_))) | (guard_target =~ rg _ _ _ (⟨_, .binOp _ _ _ _ _, _, _, _, some _⟩ :: _) _ _ _; first | (refine rg_gtp rfl (h := ?_)) | (refine rg_gf rfl (hn := rfl) (h := ?_)) | (refine rg_gq rfl (h := ?_))) | (guard_target =~ rg _ _ _ (⟨_, .call ⟨.value (.func 20), _, _⟩, _, _, _, some _⟩ :: _) _ _ _; first | (refine rg_gtp rfl (h := ?_)) | (refine rg_gf rfl (hn := rfl) (h := ?_)) | (refine rg_gq rfl (h := ?_))) | (guard_target =~ rg _ _ _ [] _ _ _; first | (refine rg_end ?_)) | (refine rg_a rfl (h := ?_)) | (refine rg_v rfl (h := ?_)) | (refine rg_s rfl ?_)) | (guard_target =~ SOp _ _ _ _ _ _; first | (guard_target =~ SOp _ _ ⟨_, .call ⟨.value (.func 20), _, _⟩, _, _, _, none⟩ _ _ _; first | (refine n_call (f := 20) rfl Try.call20 (h := AEq.pure' (by first | ((repeat' (first | exact trivial | (first | exact arg_lit | exact arg_sl id id | exact arg_nil | exact arg_sl (by simp) id | exact arg_sl (by simp) (fun _ => rfl) | exact arg_row_m (by rfl) (by rfl) (fun _ => rfl) | exact arg_vw_m (by rfl) (by rfl) (fun _ => rfl) | exact arg_rn (by rfl) (by rfl) | exact arg_junk | exact arg_row_mm (by rfl) (by rfl) (fun _ => rfl)) | refine ⟨?_, ?_⟩)); done) | fail) malive (hq := ?_)))) | (guard_target =~ SOp _ _ ⟨_, .call ⟨.value (.func 20), _, _⟩, _, _, _, some _⟩ _ _ _; first | (refine n_call (f := 20) rfl Try.call20 (h := AEq.pure' (by first | ((repeat' (first | exact trivial | (first | exact arg_lit | exact arg_sl id id | exact arg_nil | exact arg_sl (by simp) id | exact arg_sl (by simp) (fun _ => rfl) | exact arg_row_m (by rfl) (by rfl) (fun _ => rfl) | exact arg_vw_m (by rfl) (by rfl) (fun _ => rfl) | exact arg_rn (by rfl) (by rfl) | exact arg_junk | exact arg_row_mm (by rfl) (by rfl) (fun _ => rfl)) | refine ⟨?_, ?_⟩)); done) | fail) malive (hq := ?_))))) | (guard_target =~ (_ ∨ _) ∧ _; first | ((refine end_d [] (by rw [Try.results12, Lf.res1]) (ale_1 ?_) ?_) <;> (try (first | exact ale_eq (by with_reducible rfl) | exact ale_full | exact ale_sl (fun _ => rfl) | exact ale_sl (by simp) | exact ale_junk | exact ale_eq rfl | exact stq (by with_reducible rfl) | exact stq (by rfl) | exact stq (by simp (disch := omega) only [go_sem, seval, ↓reduceIte, hU]))))) | (refine hK _ _ ?_; clear hK K)))
  · have hw : w = 0 ∨ w = 1 := by omega
    have hs : 1 ≤ st := by omega
    have hs2 : st ≤ 2147483647 := by omega
    have hl : (reactR w st n).length ≤ 1000000000 := Nat.le_trans (react_len w st n) (by decide)
    have hx := react_bd w st n
    have hc := reac_react hw hs hs2 hn0
    rcases hw with rfl | rfl
    all_goals rcases hc with ⟨h5, e⟩ | ⟨h5, e⟩ | ⟨h5, e⟩ | ⟨h5, e⟩ | ⟨h5, e⟩
    all_goals (refine acall_body Try.func12 rfl Try.ntmps12 (by simp) (fun hsc => ?_); simp only [Lf.enter, Nat.reduceAdd]; clear hsc)
    all_goals (have hU := And.intro @h5 ( And.intro @e (@bqT)))
    all_goals (repeat' (first | (guard_target =~ PWp _ _ _ _ _ _ _; first | (refine pwp_seq_k (fun K hK => ?_)) | (refine pwp_block ?_) | (refine pwp_rg_then ?_) | (refine pwp_rg ?_) | (refine pwp_ret ?_) | (refine pwp_skip ?_) | ((refine pwp_cond_d (fun hcd => ?_) (fun hcd => ?_)) <;> (try simp only [hcP] at hcd) <;> (try (exfalso; first | omega | exact absurd hcd (by assumption) | exact absurd (by assumption) hcd)))) | (guard_target =~ rg _ _ _ _ _ _ _; first | (guard_target =~ rg _ _ _ (⟨_, .move _, _, _, _, some _⟩ :: _) _ _ _; first | (refine rg_gtp rfl (h := ?_)) | (refine rg_gf rfl (hn := rfl) (h := ?_)) | (refine rg_gq rfl (h := ?_)) | (refine rg_gt rfl (h := ?_))) | (guard_target =~ rg _ _ _ (⟨_, .binOp _ _ _ _ _, _, _, _, some _⟩ :: _) _ _ _; first | (refine rg_gtp rfl (h := ?_)) | (refine rg_gf rfl (hn := rfl) (h := ?_)) | (refine rg_gq rfl (h := ?_)) | (refine rg_gt rfl (h := ?_))) | (guard_target =~ rg _ _ _ (⟨_, .call ⟨.value (.func 20), _, _⟩, _, _, _, some _⟩ :: _) _ _ _; first | (refine rg_gtp rfl (h := ?_)) | (refine rg_gf rfl (hn := rfl) (h := ?_)) | (refine rg_gq rfl (h := ?_)) | (refine rg_gt rfl (h := ?_))) | (guard_target =~ rg _ _ _ [] _ _ _; first | (refine rg_end ?_)) | (refine rg_a rfl (h := ?_)) | (refine rg_x rfl (hy := rfl) (h := ?_)) | (refine rg_v rfl (h := ?_)) | (refine rg_s rfl ?_) | (refine rg_n rfl ?_)) | (guard_target =~ SOp _ _ _ _ _ _; first | (guard_target =~ SOp _ _ ⟨_, .binOp _ _ _ _ _, _, _, _, none⟩ _ _ _; first | (refine n_eqag (ne := false) rfl (by first | exact eg24 | exact eg30 | fail) (hc := rfl) (hK := ?_))) | (guard_target =~ SOp _ _ ⟨_, .binOp _ _ _ _ _, _, _, _, some _⟩ _ _ _; first | (refine n_eqag (ne := false) rfl (by first | exact eg24 | exact eg30 | fail) (hc := rfl) (hK := ?_))) | (guard_target =~ SOp _ _ ⟨_, .store _ _ _, _, _, _, none⟩ _ _ _; first | (refine n_store rfl (hK := ?_))) | (guard_target =~ SOp _ _ ⟨_, .build _ _, _, _, _, none⟩ _ _ _; first | (refine n_build rfl (by first | exact bd24 | exact bd30 | fail) (hK := ?_))) | (guard_target =~ SOp _ _ ⟨_, .alloc _, _, _, _, none⟩ _ _ _; first | (refine n_alloc rfl (by first | exact zv3 | exact zv4 | exact zv5 | exact zv22 | exact zv24 | exact zv30 | exact zv40 | fail) (hK := ?_))) | (guard_target =~ SOp _ _ ⟨_, .call ⟨.value (.func 20), _, _⟩, _, _, _, none⟩ _ _ _; first | (refine n_call (f := 20) rfl Try.call20 (h := AEq.pure' (by first | ((repeat' (first | exact trivial | (first | exact arg_lit | exact arg_sl id id | exact arg_nil | exact arg_sl (by simp) id | exact arg_sl (by simp) (fun _ => rfl) | exact arg_row_m (by rfl) (by rfl) (fun _ => rfl) | exact arg_vw_m (by rfl) (by rfl) (fun _ => rfl) | exact arg_rn (by rfl) (by rfl) | exact arg_junk | exact arg_row_mm (by rfl) (by rfl) (fun _ => rfl)) | refine ⟨?_, ?_⟩)); done) | fail) malive (hq := ?_)))) | (guard_target =~ SOp _ _ ⟨_, .call ⟨.value (.func 29), _, _⟩, _, _, _, none⟩ _ _ _; first | (refine n_call (f := 29) rfl Try.call29 (h := AEq.pure' (by first | ((repeat' (first | exact trivial | (first | exact arg_lit | exact arg_sl id id | exact arg_nil | exact arg_sl (by simp) id | exact arg_sl (by simp) (fun _ => rfl) | exact arg_row_m (by rfl) (by rfl) (fun _ => rfl) | exact arg_vw_m (by rfl) (by rfl) (fun _ => rfl) | exact arg_rn (by rfl) (by rfl) | exact arg_junk | exact arg_row_mm (by rfl) (by rfl) (fun _ => rfl)) | refine ⟨?_, ?_⟩)); done) | fail) (preact _ _ _ (by assumption)) (hq := ?_)))) | (guard_target =~ SOp _ _ ⟨_, .call ⟨.value (.func 21), _, _⟩, _, _, _, none⟩ _ _ _; first | (refine n_call (f := 21) rfl Try.call21 (h := AEq.pure' (by first | ((repeat' (first | exact trivial | (first | exact arg_lit | exact arg_sl id id | exact arg_nil | exact arg_sl (by simp) id | exact arg_sl (by simp) (fun _ => rfl) | exact arg_row_m (by rfl) (by rfl) (fun _ => rfl) | exact arg_vw_m (by rfl) (by rfl) (fun _ => rfl) | exact arg_rn (by rfl) (by rfl) | exact arg_junk | exact arg_row_mm (by rfl) (by rfl) (fun _ => rfl)) | refine ⟨?_, ?_⟩)); done) | fail) (mreac _ _ _ _ _ (by assumption) (by assumption)) (hq := ?_)))) | (guard_target =~ SOp _ _ ⟨_, .call ⟨.value (.func 20), _, _⟩, _, _, _, some _⟩ _ _ _; first | (refine n_call (f := 20) rfl Try.call20 (h := AEq.pure' (by first | ((repeat' (first | exact trivial | (first | exact arg_lit | exact arg_sl id id | exact arg_nil | exact arg_sl (by simp) id | exact arg_sl (by simp) (fun _ => rfl) | exact arg_row_m (by rfl) (by rfl) (fun _ => rfl) | exact arg_vw_m (by rfl) (by rfl) (fun _ => rfl) | exact arg_rn (by rfl) (by rfl) | exact arg_junk | exact arg_row_mm (by rfl) (by rfl) (fun _ => rfl)) | refine ⟨?_, ?_⟩)); done) | fail) malive (hq := ?_))))) | (guard_target =~ (_ ∨ _) ∧ _; first | ((refine end_d [] (by rw [Try.results12, Lf.res1]) (ale_1 ?_) ?_) <;> (try (first | exact ale_eq (by with_reducible rfl) | exact ale_full | exact ale_sl (fun _ => rfl) | exact ale_sl (by simp) | exact ale_junk | exact ale_eq rfl | exact stq (by with_reducible rfl) | exact stq (by rfl) | exact stq (by simp (disch := omega) only [go_sem, seval, ↓reduceIte, hU]))))) | (refine hK _ _ ?_; clear hK K)))
end Go.Proofs.Ytpkangodlfhjgaa
