import Derived.Test.YtohbfcmmpaikhaaDoorK15
import Derived.Test.YtohbfcmmpaikhaaDoorLc
set_option linter.unusedVariables false
set_option linter.unusedSimpArgs false
namespace Go.Proofs.YtohbfcmmpaikhaaDoor
open Go Go.Lf Go.Proofs
attribute [local irreducible] Lf.rg Lf.ro Lf.PWp Lf.SOp Lf.ACall Lf.Scoped Lf.dg Lf.dw
set_option maxRecDepth 20000
set_option maxHeartbeats 4000000
def begG (l : List Int) : Nat → Nat → Int × Int
  | 0, _ => (-1, 0)
  | m + 1, p => if findY (numBits (l.take (p + 1))) ((p : Int) + 1) = true then (findS (numBits (l.take (p + 1))) ((p : Int) + 1), (p : Int) + 1) else begG l m (p + 1)
theorem begG_0 (l : List Int) (p : Nat) : begG l 0 p = (-1, 0) := rfl
theorem begG_y {l : List Int} {m p : Nat} (h : findY (numBits (l.take (p + 1))) ((p : Int) + 1) = true) : begG l (m + 1) p = (findS (numBits (l.take (p + 1))) ((p : Int) + 1), (p : Int) + 1) := by rw [begG, if_pos h]
theorem begG_n {l : List Int} {m p : Nat} (h : ¬ findY (numBits (l.take (p + 1))) ((p : Int) + 1) = true) : begG l (m + 1) p = begG l m (p + 1) := by rw [begG, if_neg h]
def begL (l : List Int) : Int × Int := begG l (min 30 l.length) 0
theorem nb_snoc {l : List Int} {p : Nat} {x : Int} (h : l[p]? = some x) : numBits (l.take (p + 1)) = 2 * numBits (l.take p) + x := by
  rw [take_snoc h, numBits_snoc]
theorem begG_hu {l : List Int} (h01 : ∀ x ∈ l, x = 0 ∨ x = 1) (o : List UInt8) : ∀ (m p : Nat), m + p = min 30 l.length → Way (numBits (l.take p)) p →
    (begG l m p).1 ≤ 256 ∧ (begG l m p).2 ≤ l.length ∧ 0 ≤ (begG l m p).2 ∧ (0 ≤ (begG l m p).1 → 1 ≤ (begG l m p).2) ∧ huM (l.drop p) (numBits (l.take p)) p o =
      if (begG l m p).1 = 256 then ([], 11) else if (begG l m p).1 < 0 then (if 7 < l.length ∨ numBits l ≠ 2 ^ l.length - 1 then ([], 10) else (o, 0)) else huM (l.drop (begG l m p).2.toNat) 0 0 (o ++ [UInt8.ofNat (begG l m p).1.toNat]) := by
  intro m
  induction m with
  | zero =>
    intro p hm hw
    have hn := hw.n
    have hp : p = l.length := by omega
    subst hp
    rw [begG_0, List.drop_length, List.take_length, huM_nil]
    refine ⟨by decide, by dsimp only; omega, by decide, fun h => absurd h (by decide), ?_⟩
    rw [if_neg (show ¬ (((-1 : Int), (0 : Int)).1 = 256) by decide), if_pos (show ((-1 : Int), (0 : Int)).1 < 0 by decide)]
  | succ m ih =>
    intro p hm hw
    obtain ⟨x, hx⟩ := ex_at (l := l) (i := p) (by omega)
    have hx01 := h01 x (List.mem_of_getElem? hx)
    have hnb := nb_snoc hx
    rw [drop_cons hx]
    by_cases hY : findY (numBits (l.take (p + 1))) ((p : Int) + 1) = true
    · rw [begG_y hY]
      obtain ⟨s, hs, hS, _⟩ := of_find hY
      have hY2 := hY
      rw [hnb] at hY2
      dsimp only
      refine ⟨by omega, by omega, by omega, fun _ => by omega, ?_⟩
      rw [hnb] at hS ⊢
      by_cases h256 : findS (2 * numBits (l.take p) + x) ((p : Int) + 1) = 256
      · rw [huM_end _ _ hY2 h256, if_pos h256]
      · rw [huM_yes _ _ hY2 h256, if_neg h256, if_neg (by omega), show ((p : Int) + 1).toNat = p + 1 from by omega]
    · rw [begG_n hY]
      have hY2 := hY
      rw [hnb] at hY2
      rw [huM_no _ _ hY2, ← hnb]
      refine ih (p + 1) (by omega) ?_
      rw [hnb]
      exact way_s hw hx01 hY2
theorem begL_hu {l : List Int} (h01 : ∀ x ∈ l, x = 0 ∨ x = 1) (o : List UInt8) : (begL l).1 ≤ 256 ∧ (begL l).2 ≤ l.length ∧ 0 ≤ (begL l).2 ∧ (0 ≤ (begL l).1 → 1 ≤ (begL l).2) ∧ huM l 0 0 o =
      if (begL l).1 = 256 then ([], 11) else if (begL l).1 < 0 then (if 7 < l.length ∨ numBits l ≠ 2 ^ l.length - 1 then ([], 10) else (o, 0)) else huM (l.drop (begL l).2.toNat) 0 0 (o ++ [UInt8.ofNat (begL l).1.toNat]) :=
  begG_hu h01 o (min 30 l.length) 0 rfl way_0
theorem ones_iff {l : List Int} (h01 : ∀ x ∈ l, x = 0 ∨ x = 1) : numBits l ≤ 2 ^ l.length - 1 ∧ (numBits l = 2 ^ l.length - 1 → ∀ x ∈ l, x = 1) ∧ ((∀ x ∈ l, x = 1) → numBits l = 2 ^ l.length - 1) := by
  have key : ∀ (m : Nat) (l : List Int), l.length = m → (∀ x ∈ l, x = 0 ∨ x = 1) → numBits l ≤ 2 ^ l.length - 1 ∧ (numBits l = 2 ^ l.length - 1 → ∀ x ∈ l, x = 1) ∧ ((∀ x ∈ l, x = 1) → numBits l = 2 ^ l.length - 1) := by
    intro m
    induction m with
    | zero =>
      intro l hl _
      have : l = [] := List.length_eq_zero_iff.1 hl
      subst this
      refine ⟨by decide, fun _ x hx => absurd hx (by simp), fun _ => by decide⟩
    | succ m ih =>
      intro l hl h
      obtain ⟨x, hx⟩ := ex_at (l := l) (i := m) (by omega)
      have e : l = l.take m ++ [x] := by rw [← take_snoc hx, List.take_of_length_le (by omega)]
      generalize l.take m = t at e
      subst e
      have ht : t.length = m := by simp at hl; omega
      have hx01 := h x (by simp)
      obtain ⟨i1, i2, i3⟩ := ih t ht (fun y hy => h y (List.mem_append_left _ hy))
      have hp : (2 : Int) ^ (t ++ [x]).length = 2 ^ t.length * 2 := by rw [List.length_append, List.length_singleton, Int.pow_succ]
      rw [numBits_snoc, hp]
      refine ⟨by omega, fun he => ?_, fun ha => ?_⟩
      · have h2 : numBits t = 2 ^ t.length - 1 := by omega
        have h3 : x = 1 := by omega
        intro y hy
        rw [List.mem_append, List.mem_singleton] at hy
        rcases hy with hy | hy
        · exact i2 h2 y hy
        · rw [hy, h3]
      · have h2 := i3 (fun y hy => ha y (List.mem_append_left _ hy))
        have h3 := ha x (by simp)
        omega
  exact key _ l rfl h01
theorem nb_0 : numBits [] = 0 := rfl
attribute [local irreducible] codesT csI szI lensT findY findS numBits begL
theorem rbegins0 (f q : Bool) (l : List Int) (f2 q2 f3 q3 : Bool) (h01 : ∀ x ∈ l, x = 0 ∨ x = 1) (hl : l.length ≤ 1000000000) (rs rk : Int) (hres : begG l (min 30 l.length) 0 = (rs, rk)) : AEq Tryd.prog 102 [.sl f q (l.map intA), .sl f2 q2 (codesT.map intA), .sl f3 q3 (lensT.map intA)] [] (.tu [i64 rs, i64 rk]) [] := by
  have hcl := codesT_len
  have hll := lensT_len
  refine acall_body Tryd.func102 rfl Tryd.ntmps102 (by simp) (fun hsc => ?_); simp only [Lf.enter, Nat.reduceAdd]; clear hsc
  have hU := True.intro
  repeat' (first | (guard_target =~ PWp _ _ _ _ _ _ _; first | (refine pwp_seq_k (fun K hK => ?_)) | (refine pwp_block ?_) | (refine pwp_rg_then ?_)) | (guard_target =~ rg _ _ _ _ _ _ _; first | (guard_target =~ rg _ _ _ [] _ _ _; first | (refine rg_end ?_)) | (refine rg_a rfl (h := ?_))) | (refine hK _ _ ?_; clear hK K))
  refine pwp_loop_e [6, 7, 8, 9, 10, 11, 12, 13, 14, 15, 16, 17, 18, 19, 20, 21, 22, 23, 24, 25, 26, 27, 28, 29, 30, 31, 32, 33, 34, 35, 36, 37, 38, 39, 40, 41, 42, 43, 44, 45, 46, 47, 48] (fun p : Nat => [(9, i64 ((p : Int) + 1)), (8, i64 (numBits (l.take p)))]) (fun p => []) (fun p => p ≤ min 30 l.length ∧ begG l (min 30 l.length - p) p = (rs, rk)) (fun p => min 30 l.length - p) 0 ⟨Nat.zero_le _, hres⟩ ?_ rfl ?_
  · rw [List.take_zero]
    (refine ⟨⟨_, (by (try simp (disch := omega) only [go_sem, seval, ↓reduceIte, hU]) <;> rfl), ?_⟩, ⟨_, (by (try simp (disch := omega) only [go_sem, seval, ↓reduceIte, hU]) <;> rfl), ?_⟩, trivial⟩ <;> (try (first | exact ale_eq (by with_reducible rfl) | exact ale_full | exact ale_sl (fun _ => rfl) | exact ale_sl (by simp) | exact ale_junk | exact ale_eq rfl)))
    all_goals exact ale_eq (by rw [nb_0])
  · rintro p ⟨hp, hg⟩
    simp only [mask, List.map_cons, List.map_nil, List.cons_append, List.nil_append]
    by_cases hlt : p < min 30 l.length
    · obtain ⟨x, hx⟩ := ex_at (l := l) (i := p) (by omega)
      have hnb := nb_snoc hx
      have hbd := numBits_bd32 (l.take p) (fun y hy => h01 y (List.mem_of_mem_take hy)) (by rw [List.length_take]; omega)
      have hx01 := h01 x (List.mem_of_getElem? hx)
      have hp30 : p < 30 := by omega
      have hpl : p < l.length := by omega
      rw [show min 30 l.length - p = (min 30 l.length - (p + 1)) + 1 from by omega] at hg
      obtain ⟨c, hc⟩ : ∃ c, numBits (l.take (p + 1)) = c := ⟨_, rfl⟩
      have hcx : 2 * numBits (l.take p) + x = c := by rw [← hc, hnb]
      have hpx : ((p : Int) + 1 - 1).toNat = p := by omega
      have hgy : findY c ((p : Int) + 1) = true → (rs, rk) = (findS c ((p : Int) + 1), (p : Int) + 1) := by
        intro h
        rw [← hg, begG_y (by rw [hc]; exact h), hc]
      have hgn : ¬ findY c ((p : Int) + 1) = true → begG l (min 30 l.length - (p + 1)) (p + 1) = (rs, rk) := by
        intro h
        rw [← hg, begG_n (by rw [hc]; exact h)]
      have hU := And.intro @hcx (@hpx)
      repeat' (first | (guard_target =~ PWp _ _ _ _ _ _ _; first | (refine pwp_seq_k (fun K hK => ?_)) | (refine pwp_block ?_) | (refine pwp_rg_then ?_) | (refine pwp_skip ?_) | ((refine pwp_cond_d (fun hcd => ?_) (fun hcd => ?_)) <;> (try simp only [hcP] at hcd) <;> (try (exfalso; first | omega | exact absurd hcd (by assumption) | exact absurd (by assumption) hcd)))) | (guard_target =~ rg _ _ _ _ _ _ _; first | (guard_target =~ rg _ _ _ (⟨_, .move _, _, _, _, some _⟩ :: _) _ _ _; first | (refine rg_gq rfl (h := ?_))) | (guard_target =~ rg _ _ _ (⟨_, .binOp _ _ _ _ _, _, _, _, some _⟩ :: _) _ _ _; first | (refine rg_gq rfl (h := ?_))) | (guard_target =~ rg _ _ _ (⟨_, .call ⟨.builtin .len, _, _⟩, _, _, _, some _⟩ :: _) _ _ _; first | (refine rg_gq rfl (h := ?_))) | (guard_target =~ rg _ _ _ (⟨_, .load _ _, _, _, _, some _⟩ :: _) _ _ _; first | (refine rg_gq rfl (h := ?_))) | (guard_target =~ rg _ _ _ (⟨_, .indexAddr _ _ _, _, _, _, some _⟩ :: _) _ _ _; first | (refine rg_gq rfl (h := ?_))) | (guard_target =~ rg _ _ _ [] _ _ _; first | (refine rg_end ?_)) | (refine rg_a rfl (h := ?_)) | (refine rg_v rfl (h := ?_)) | (refine rg_s rfl ?_)) | (guard_target =~ SOp _ _ _ _ _ _; first | (guard_target =~ SOp _ _ ⟨_, .indexAddr _ _ _, _, _, _, none⟩ _ _ _; first | (refine n_index rfl (hK := ?_))) | (guard_target =~ SOp _ _ ⟨_, .indexAddr _ _ _, _, _, _, some _⟩ _ _ _; first | (refine n_index rfl (hK := ?_)))) | (refine hK _ _ ?_; clear hK K))
      refine pwp_loop_e [6, 7, 10, 29, 30, 31, 32, 33, 34, 35, 36, 37, 38, 39, 40, 41, 42, 43, 44, 45, 46, 47, 48] (fun k : Nat => [(10, i64 k)]) (fun k => []) (fun k => k ≤ 257 ∧ (findY c ((p : Int) + 1) = true → (k : Int) ≤ findS c ((p : Int) + 1))) (fun k => 257 - k) 0 ⟨Nat.zero_le _, fun h => by obtain ⟨s, _, hS, _⟩ := of_find h; omega⟩ ?_ rfl ?_
      · have hU := True.intro
        (refine ⟨⟨_, (by (try simp (disch := omega) only [go_sem, seval, ↓reduceIte, hU]) <;> rfl), ?_⟩, trivial⟩ <;> (try (first | exact ale_eq (by with_reducible rfl) | exact ale_full | exact ale_sl (fun _ => rfl) | exact ale_sl (by simp) | exact ale_junk | exact ale_eq rfl)))
      · rintro k ⟨hk, hkf⟩
        simp only [mask, List.map_cons, List.map_nil, List.cons_append, List.nil_append]
        by_cases hltk : k < 257
        · have hat := codesT_at hltk
          have hat2 := lensT_at hltk
          by_cases hfit : csI k = c ∧ szI (k : Int) = (p : Int) + 1
          · obtain ⟨hf1, hf2⟩ := hfit
            obtain ⟨hy, hS⟩ := find_of hltk
            rw [hf1, hf2] at hy hS
            have hg2 := hgy hy
            rw [hS] at hg2
            obtain ⟨rfl, rfl⟩ : rs = (k : Int) ∧ rk = (p : Int) + 1 := by simp only [Prod.mk.injEq] at hg2; exact hg2
            have hU := And.intro @hf1 (@hf2)
            repeat' (first | (guard_target =~ PWp _ _ _ _ _ _ _; first | (refine pwp_seq_k (fun K hK => ?_)) | (refine pwp_block ?_) | (refine pwp_rg_then ?_) | (refine pwp_ret ?_) | (refine pwp_skip ?_) | ((refine pwp_cond_d (fun hcd => ?_) (fun hcd => ?_)) <;> (try simp only [hcP] at hcd) <;> (try (exfalso; first | omega | exact absurd hcd (by assumption) | exact absurd (by assumption) hcd)))) | (guard_target =~ rg _ _ _ _ _ _ _; first | (guard_target =~ rg _ _ _ (⟨_, .move _, _, _, _, some _⟩ :: _) _ _ _; first | (refine rg_gtp rfl (h := ?_)) | (refine rg_gt rfl (h := ?_))) | (guard_target =~ rg _ _ _ (⟨_, .binOp _ _ _ _ _, _, _, _, some _⟩ :: _) _ _ _; first | (refine rg_gtp rfl (h := ?_)) | (refine rg_gt rfl (h := ?_))) | (guard_target =~ rg _ _ _ (⟨_, .call ⟨.builtin .len, _, _⟩, _, _, _, some _⟩ :: _) _ _ _; first | (refine rg_gtp rfl (h := ?_)) | (refine rg_gt rfl (h := ?_))) | (guard_target =~ rg _ _ _ (⟨_, .load _ _, _, _, _, some _⟩ :: _) _ _ _; first | (refine rg_gtp rfl (h := ?_)) | (refine rg_gt rfl (h := ?_))) | (guard_target =~ rg _ _ _ (⟨_, .indexAddr _ _ _, _, _, _, some _⟩ :: _) _ _ _; first | (refine rg_gtp rfl (h := ?_)) | (refine rg_gt rfl (h := ?_))) | (guard_target =~ rg _ _ _ [] _ _ _; first | (refine rg_end ?_)) | (refine rg_a rfl (h := ?_)) | (refine rg_v rfl (h := ?_)) | (refine rg_s rfl ?_)) | (guard_target =~ SOp _ _ _ _ _ _; first | (guard_target =~ SOp _ _ ⟨_, .indexAddr _ _ _, _, _, _, none⟩ _ _ _; first | (refine n_index rfl (hK := ?_))) | (guard_target =~ SOp _ _ ⟨_, .indexAddr _ _ _, _, _, _, some _⟩ _ _ _; first | (refine n_index rfl (hK := ?_)))) | (guard_target =~ (_ ∨ _) ∧ _; first | ((refine end_d [] (by rw [Tryd.results102, Lf.res2]) (ale_2 ?_ ?_) ?_) <;> (try (first | exact ale_eq (by with_reducible rfl) | exact ale_full | exact ale_sl (fun _ => rfl) | exact ale_sl (by simp) | exact ale_junk | exact ale_eq rfl | exact stq (by with_reducible rfl) | exact stq (by rfl) | exact stq (by simp (disch := omega) only [go_sem, seval, ↓reduceIte, hU]))))) | (refine hK _ _ ?_; clear hK K))
            all_goals trace_state
          · have hstep : findY c ((p : Int) + 1) = true → ((k + 1 : Nat) : Int) ≤ findS c ((p : Int) + 1) := by
              intro h
              have h2 := hkf h
              obtain ⟨s, hs, hS, h3, h4, _⟩ := of_find h
              by_cases hsk : s = k
              · subst hsk
                exact absurd ⟨h3, h4⟩ hfit
              · omega
            have hU := True.intro
            repeat' (first | (guard_target =~ PWp _ _ _ _ _ _ _; first | (refine pwp_seq_k (fun K hK => ?_)) | (refine pwp_block ?_) | (refine pwp_rg_then ?_) | (refine pwp_skip ?_) | ((refine pwp_cond_d (fun hcd => ?_) (fun hcd => ?_)) <;> (try simp only [hcP] at hcd) <;> (try (exfalso; first | omega | exact absurd hcd (by assumption) | exact absurd (by assumption) hcd)))) | (guard_target =~ rg _ _ _ _ _ _ _; first | (guard_target =~ rg _ _ _ (⟨_, .move _, _, _, _, some _⟩ :: _) _ _ _; first | (refine rg_gtp rfl (h := ?_)) | (refine rg_gf rfl (hn := rfl) (h := ?_)) | (refine rg_gq rfl (h := ?_)) | (refine rg_gt rfl (h := ?_)) | ((first | refine rg_case (by simp only [go_sem, seval, ↓reduceIte, hU] <;> rfl) (fun hcd => ?_) (fun hcd => ?_) | refine rg_case2 (by simp only [go_sem, seval, ↓reduceIte, hU] <;> rfl) (fun hcd => ?_) (fun hcd => ?_)) <;> (try simp only [hcd]) <;> (try (simp only [Bool.not_eq_true', Bool.not_eq_false'] at hcd; try simp only [hcd])) <;> (refine rg_w (Γ2 := _) (by repeat' (first | exact envw_nil | apply envw_cons | exact opens_t | exact opens_f | exact opens_r)) ?_) <;> (try simp only [hcP] at hcd) <;> (try (exfalso; first | omega | exact absurd hcd (by assumption) | exact absurd (by assumption) hcd)))) | (guard_target =~ rg _ _ _ (⟨_, .binOp _ _ _ _ _, _, _, _, some _⟩ :: _) _ _ _; first | (refine rg_gtp rfl (h := ?_)) | (refine rg_gf rfl (hn := rfl) (h := ?_)) | (refine rg_gq rfl (h := ?_)) | (refine rg_gt rfl (h := ?_)) | ((first | refine rg_case (by simp only [go_sem, seval, ↓reduceIte, hU] <;> rfl) (fun hcd => ?_) (fun hcd => ?_) | refine rg_case2 (by simp only [go_sem, seval, ↓reduceIte, hU] <;> rfl) (fun hcd => ?_) (fun hcd => ?_)) <;> (try simp only [hcd]) <;> (try (simp only [Bool.not_eq_true', Bool.not_eq_false'] at hcd; try simp only [hcd])) <;> (refine rg_w (Γ2 := _) (by repeat' (first | exact envw_nil | apply envw_cons | exact opens_t | exact opens_f | exact opens_r)) ?_) <;> (try simp only [hcP] at hcd) <;> (try (exfalso; first | omega | exact absurd hcd (by assumption) | exact absurd (by assumption) hcd)))) | (guard_target =~ rg _ _ _ (⟨_, .call ⟨.builtin .len, _, _⟩, _, _, _, some _⟩ :: _) _ _ _; first | (refine rg_gtp rfl (h := ?_)) | (refine rg_gf rfl (hn := rfl) (h := ?_)) | (refine rg_gq rfl (h := ?_)) | (refine rg_gt rfl (h := ?_)) | ((first | refine rg_case (by simp only [go_sem, seval, ↓reduceIte, hU] <;> rfl) (fun hcd => ?_) (fun hcd => ?_) | refine rg_case2 (by simp only [go_sem, seval, ↓reduceIte, hU] <;> rfl) (fun hcd => ?_) (fun hcd => ?_)) <;> (try simp only [hcd]) <;> (try (simp only [Bool.not_eq_true', Bool.not_eq_false'] at hcd; try simp only [hcd])) <;> (refine rg_w (Γ2 := _) (by repeat' (first | exact envw_nil | apply envw_cons | exact opens_t | exact opens_f | exact opens_r)) ?_) <;> (try simp only [hcP] at hcd) <;> (try (exfalso; first | omega | exact absurd hcd (by assumption) | exact absurd (by assumption) hcd)))) | (guard_target =~ rg _ _ _ (⟨_, .load _ _, _, _, _, some _⟩ :: _) _ _ _; first | (refine rg_gtp rfl (h := ?_)) | (refine rg_gf rfl (hn := rfl) (h := ?_)) | (refine rg_gq rfl (h := ?_)) | (refine rg_gt rfl (h := ?_)) | ((first | refine rg_case (by simp only [go_sem, seval, ↓reduceIte, hU] <;> rfl) (fun hcd => ?_) (fun hcd => ?_) | refine rg_case2 (by simp only [go_sem, seval, ↓reduceIte, hU] <;> rfl) (fun hcd => ?_) (fun hcd => ?_)) <;> (try simp only [hcd]) <;> (try (simp only [Bool.not_eq_true', Bool.not_eq_false'] at hcd; try simp only [hcd])) <;> (refine rg_w (Γ2 := _) (by repeat' (first | exact envw_nil | apply envw_cons | exact opens_t | exact opens_f | exact opens_r)) ?_) <;> (try simp only [hcP] at hcd) <;> (try (exfalso; first | omega | exact absurd hcd (by assumption) | exact absurd (by assumption) hcd)))) | (guard_target =~ rg _ _ _ (⟨_, .indexAddr _ _ _, _, _, _, some _⟩ :: _) _ _ _; first | (refine rg_gtp rfl (h := ?_)) | (refine rg_gf rfl (hn := rfl) (h := ?_)) | (refine rg_gq rfl (h := ?_)) | (refine rg_gt rfl (h := ?_)) | ((first | refine rg_case (by simp only [go_sem, seval, ↓reduceIte, hU] <;> rfl) (fun hcd => ?_) (fun hcd => ?_) | refine rg_case2 (by simp only [go_sem, seval, ↓reduceIte, hU] <;> rfl) (fun hcd => ?_) (fun hcd => ?_)) <;> (try simp only [hcd]) <;> (try (simp only [Bool.not_eq_true', Bool.not_eq_false'] at hcd; try simp only [hcd])) <;> (refine rg_w (Γ2 := _) (by repeat' (first | exact envw_nil | apply envw_cons | exact opens_t | exact opens_f | exact opens_r)) ?_) <;> (try simp only [hcP] at hcd) <;> (try (exfalso; first | omega | exact absurd hcd (by assumption) | exact absurd (by assumption) hcd)))) | (guard_target =~ rg _ _ _ [] _ _ _; first | (refine rg_end ?_)) | (refine rg_a rfl (h := ?_)) | (refine rg_v rfl (h := ?_)) | (refine rg_s rfl ?_)) | (guard_target =~ SOp _ _ _ _ _ _; first | (guard_target =~ SOp _ _ ⟨_, .indexAddr _ _ _, _, _, _, none⟩ _ _ _; first | (refine n_index rfl (hK := ?_))) | (guard_target =~ SOp _ _ ⟨_, .indexAddr _ _ _, _, _, _, some _⟩ _ _ _; first | (refine n_index rfl (hK := ?_)))) | (refine hK _ _ ?_; clear hK K))
            all_goals refine ⟨k + 1, ⟨by omega, hstep⟩, by omega, ?_, (by repeat' (first | exact agr_refl | refine agr_cons (by rfl) ?_)), (by first | rfl | (simp (disch := omega) only [go_sem, seval, ↓reduceIte, hU]; done) | (simp (disch := omega) only [go_sem, seval, ↓reduceIte, hU]; rfl))⟩
            all_goals ((refine ⟨⟨_, (by (try simp (disch := omega) only [go_sem, seval, ↓reduceIte, hU]) <;> rfl), ?_⟩, trivial⟩ <;> (try (first | exact ale_eq (by with_reducible rfl) | exact ale_full | exact ale_sl (fun _ => rfl) | exact ale_sl (by simp) | exact ale_junk | exact ale_eq rfl))))
        · have hk7 : k = 257 := by omega
          subst hk7
          have hno : ¬ findY c ((p : Int) + 1) = true := by
            intro h
            have h2 := hkf h
            obtain ⟨s, hs, hS, _⟩ := of_find h
            omega
          have hg3 := hgn hno
          have hU := True.intro
          repeat' (first | (guard_target =~ PWp _ _ _ _ _ _ _; first | (refine pwp_seq_k (fun K hK => ?_)) | (refine pwp_rg_then ?_) | (refine pwp_exit ?_) | ((refine pwp_cond_d (fun hcd => ?_) (fun hcd => ?_)) <;> (try simp only [hcP] at hcd) <;> (try (exfalso; first | omega | exact absurd hcd (by assumption) | exact absurd (by assumption) hcd)))) | (guard_target =~ rg _ _ _ _ _ _ _; first | (guard_target =~ rg _ _ _ [] _ _ _; first | (refine rg_end ?_)) | (refine rg_a rfl (h := ?_)) | (refine rg_v rfl (h := ?_))) | (refine hK _ _ ?_; clear hK K) | (apply_assumption (exfalso := false) (symm := false)))
          refine ⟨p + 1, ⟨by omega, hg3⟩, by omega, ?_, (by repeat' (first | exact agr_refl | refine agr_cons (by rfl) ?_)), (by first | rfl | (simp (disch := omega) only [go_sem, seval, ↓reduceIte, hU]; done) | (simp (disch := omega) only [go_sem, seval, ↓reduceIte, hU]; rfl))⟩
          (refine ⟨⟨_, (by (try simp (disch := omega) only [go_sem, seval, ↓reduceIte, hU]) <;> rfl), ?_⟩, ⟨_, (by (try simp (disch := omega) only [go_sem, seval, ↓reduceIte, hU]) <;> rfl), ?_⟩, trivial⟩ <;> (try (first | exact ale_eq (by with_reducible rfl) | exact ale_full | exact ale_sl (fun _ => rfl) | exact ale_sl (by simp) | exact ale_junk | exact ale_eq rfl)))
          all_goals exact ale_i hc.symm
    · have hpe : min 30 l.length - p = 0 := by omega
      rw [hpe, begG_0] at hg
      obtain ⟨rfl, rfl⟩ : rs = -1 ∧ rk = 0 := by simp only [Prod.mk.injEq] at hg; exact ⟨hg.1.symm, hg.2.symm⟩
      repeat' (first | (guard_target =~ PWp _ _ _ _ _ _ _; first | (refine pwp_seq_k (fun K hK => ?_)) | (refine pwp_rg_then ?_) | (refine pwp_ret ?_) | (refine pwp_exit ?_) | ((refine pwp_cond_d (fun hcd => ?_) (fun hcd => ?_)) <;> (try simp only [hcP] at hcd) <;> (try (exfalso; first | omega | exact absurd hcd (by assumption) | exact absurd (by assumption) hcd)))) | (guard_target =~ rg _ _ _ _ _ _ _; first | (guard_target =~ rg _ _ _ (⟨_, .move _, _, _, _, some _⟩ :: _) _ _ _; first | (refine rg_gq rfl (h := ?_))) | (guard_target =~ rg _ _ _ (⟨_, .binOp _ _ _ _ _, _, _, _, some _⟩ :: _) _ _ _; first | (refine rg_gq rfl (h := ?_))) | (guard_target =~ rg _ _ _ (⟨_, .call ⟨.builtin .len, _, _⟩, _, _, _, some _⟩ :: _) _ _ _; first | (refine rg_gq rfl (h := ?_))) | (guard_target =~ rg _ _ _ (⟨_, .load _ _, _, _, _, some _⟩ :: _) _ _ _; first | (refine rg_gq rfl (h := ?_))) | (guard_target =~ rg _ _ _ (⟨_, .indexAddr _ _ _, _, _, _, some _⟩ :: _) _ _ _; first | (refine rg_gq rfl (h := ?_))) | (guard_target =~ rg _ _ _ [] _ _ _; first | (refine rg_end ?_)) | (refine rg_a rfl (h := ?_)) | (refine rg_v rfl (h := ?_))) | (guard_target =~ (_ ∨ _) ∧ _; first | ((refine end_d [] (by rw [Tryd.results102, Lf.res2]) (ale_2 ?_ ?_) ?_) <;> (try (first | exact ale_eq (by with_reducible rfl) | exact ale_full | exact ale_sl (fun _ => rfl) | exact ale_sl (by simp) | exact ale_junk | exact ale_eq rfl | exact stq (by with_reducible rfl) | exact stq (by rfl) | exact stq (by simp (disch := omega) only [go_sem, seval, ↓reduceIte, hU]))))) | (refine hK _ _ ?_; clear hK K) | (apply_assumption (exfalso := false) (symm := false)))
      all_goals trace_state
theorem begL_def (l : List Int) : begG l (min 30 l.length) 0 = ((begL l).1, (begL l).2) := by unfold begL; rfl
theorem rbegins (f q : Bool) (l : List Int) (f2 q2 f3 q3 : Bool) (h01 : ∀ x ∈ l, x = 0 ∨ x = 1) (hl : l.length ≤ 1000000000) : AEq Tryd.prog 102 [.sl f q (l.map intA), .sl f2 q2 (codesT.map intA), .sl f3 q3 (lensT.map intA)] [] (.tu [i64 (begL l).1, i64 (begL l).2]) [] := rbegins0 f q l f2 q2 f3 q3 h01 hl _ _ (begL_def l)
attribute [local irreducible] huM bitsL
theorem rdecode0 (f q : Bool) (b : List UInt8) (hb : b.length ≤ 100000) (d : List UInt8) (e : Int) (htot : huM (bitsL b) 0 0 [] = (d, e)) : AEq Tryd.prog 76 [.sl f q (b.map byteA)] [] (.tu [.sl false false (d.map byteA), i64 e]) [] := by
  have hbl := bitsL_len b
  refine acall_body Tryd.func76 rfl Tryd.ntmps76 (by simp) (fun hsc => ?_); simp only [Lf.enter, Nat.reduceAdd]; clear hsc
  have hU := True.intro
  repeat' (first | (guard_target =~ PWp _ _ _ _ _ _ _; first | (refine pwp_seq_k (fun K hK => ?_)) | (refine pwp_block ?_) | (refine pwp_rg_then ?_)) | (guard_target =~ rg _ _ _ _ _ _ _; first | (guard_target =~ rg _ _ _ [] _ _ _; first | (refine rg_end ?_)) | (refine rg_a rfl (h := ?_)) | (refine rg_v rfl (h := ?_)) | (refine rg_s rfl ?_)) | (guard_target =~ SOp _ _ _ _ _ _; first | (guard_target =~ SOp _ _ ⟨_, .call ⟨.value (.func 101), _, _⟩, _, _, _, none⟩ _ _ _; first | (refine n_call (f := 101) rfl Tryd.call101 (h := AEq.pure' (by first | ((repeat' (first | exact trivial | (first | exact arg_lit | exact arg_sl id id | exact arg_nil | exact arg_sl (by simp) id | exact arg_sl (by simp) (fun _ => rfl) | exact arg_row_m (by rfl) (by rfl) (fun _ => rfl) | exact arg_vw_m (by rfl) (by rfl) (fun _ => rfl) | exact arg_rn (by rfl) (by rfl) | exact arg_junk | exact arg_row_mm (by rfl) (by rfl) (fun _ => rfl)) | refine ⟨?_, ?_⟩)); done) | fail) rlengths (hq := ?_)))) | (guard_target =~ SOp _ _ ⟨_, .call ⟨.value (.func 100), _, _⟩, _, _, _, none⟩ _ _ _; first | (refine n_call (f := 100) rfl Tryd.call100 (h := AEq.pure' (by first | ((repeat' (first | exact trivial | (first | exact arg_lit | exact arg_sl id id | exact arg_nil | exact arg_sl (by simp) id | exact arg_sl (by simp) (fun _ => rfl) | exact arg_row_m (by rfl) (by rfl) (fun _ => rfl) | exact arg_vw_m (by rfl) (by rfl) (fun _ => rfl) | exact arg_rn (by rfl) (by rfl) | exact arg_junk | exact arg_row_mm (by rfl) (by rfl) (fun _ => rfl)) | refine ⟨?_, ?_⟩)); done) | fail) rcodes (hq := ?_)))) | (guard_target =~ SOp _ _ ⟨_, .call ⟨.value (.func 99), _, _⟩, _, _, _, none⟩ _ _ _; first | (refine n_call (f := 99) rfl Tryd.call99 (h := AEq.pure' (by first | ((repeat' (first | exact trivial | (first | exact arg_lit | exact arg_sl id id | exact arg_nil | exact arg_sl (by simp) id | exact arg_sl (by simp) (fun _ => rfl) | exact arg_row_m (by rfl) (by rfl) (fun _ => rfl) | exact arg_vw_m (by rfl) (by rfl) (fun _ => rfl) | exact arg_rn (by rfl) (by rfl) | exact arg_junk | exact arg_row_mm (by rfl) (by rfl) (fun _ => rfl)) | refine ⟨?_, ?_⟩)); done) | fail) (rbits _ _ _ (by omega)) (hq := ?_))))) | (refine hK _ _ ?_; clear hK K))
  refine pwp_row 7 5 1 (by decide) (by rfl) rfl rfl ?_
  refine pwp_loop_g [2, 3, 4, 7, 8, 9, 15, 16, 17, 18, 19, 20, 21, 22, 23, 24, 25, 26, 27, 28, 29, 30, 31, 32, 33] [0] (fun s : Nat × List UInt8 => [(4, .sl false false (((bitsL b).drop s.1).map intA)), (7, .row 0 s.2.length)]) (fun s => [.row s.2.length 5 1 (s.2.map byteA)]) (fun s => s.1 ≤ 8 * b.length ∧ s.2.length ≤ s.1 ∧ huM ((bitsL b).drop s.1) 0 0 s.2 = (d, e)) (fun s => 8 * b.length - s.1) (0, []) (fun _ => rfl) rfl rfl ⟨Nat.zero_le _, Nat.le_refl _, htot⟩ ?_ (by rfl) (by intro s i x h; simp only [List.mem_cons, Prod.mk.injEq, List.not_mem_nil, or_false] at h; rcases h with ⟨rfl, _⟩ | ⟨rfl, _⟩ <;> decide) ?_
  · (refine ⟨⟨_, (by (try simp (disch := omega) only [go_sem, seval, ↓reduceIte, hU]) <;> rfl), ?_⟩, ⟨_, (by (try simp (disch := omega) only [go_sem, seval, ↓reduceIte, hU]) <;> rfl), ?_⟩, trivial⟩ <;> (try (first | exact ale_eq (by with_reducible rfl) | exact ale_full | exact ale_sl (fun _ => rfl) | exact ale_sl (by simp) | exact ale_junk | exact ale_eq rfl)))
  · rintro ⟨a, o⟩ ⟨ha, ho, h0⟩
    dsimp only at ha ho h0
    simp only [mask, List.map_cons, List.map_nil, List.cons_append, List.nil_append]
    have h01 : ∀ x ∈ (bitsL b).drop a, x = 0 ∨ x = 1 := fun x hx => bits01 b x (List.mem_of_mem_drop hx)
    have hdl : ((bitsL b).drop a).length = 8 * b.length - a := by rw [List.length_drop, hbl]
    obtain ⟨hg1, hg2, hg3, hg4, hu⟩ := begL_hu h01 o
    rw [h0] at hu
    obtain ⟨⟨s, k⟩, hsk⟩ : ∃ r, begL ((bitsL b).drop a) = r := ⟨_, rfl⟩
    rw [hsk] at hu hg1 hg2 hg3 hg4
    dsimp only at hu hg1 hg2 hg3 hg4
    have hsk1 : (begL ((bitsL b).drop a)).1 = s := by rw [hsk]
    have hsk2 : (begL ((bitsL b).drop a)).2 = k := by rw [hsk]
    by_cases h256 : s = 256
    · subst h256
      rw [if_pos rfl] at hu
      obtain ⟨rfl, rfl⟩ : d = [] ∧ e = 11 := by simp only [Prod.mk.injEq] at hu; exact hu
      have hU := And.intro @hsk1 (@hsk2)
      repeat' (first | (guard_target =~ PWp _ _ _ _ _ _ _; first | (refine pwp_seq_k (fun K hK => ?_)) | (refine pwp_block ?_) | (refine pwp_rg_then ?_) | (refine pwp_ret ?_) | ((refine pwp_cond_d (fun hcd => ?_) (fun hcd => ?_)) <;> (try simp only [hcP] at hcd) <;> (try (exfalso; first | omega | exact absurd hcd (by assumption) | exact absurd (by assumption) hcd)))) | (guard_target =~ rg _ _ _ _ _ _ _; first | (guard_target =~ rg _ _ _ [] _ _ _; first | (refine rg_end ?_)) | (refine rg_a rfl (h := ?_)) | (refine rg_x rfl (hy := rfl) (h := ?_)) | (refine rg_v rfl (h := ?_)) | (refine rg_s rfl ?_)) | (guard_target =~ SOp _ _ _ _ _ _; first | (guard_target =~ SOp _ _ ⟨_, .call ⟨.value (.func 102), _, _⟩, _, _, _, none⟩ _ _ _; first | (refine n_call (f := 102) rfl Tryd.call102 (h := AEq.pure' (by first | ((repeat' (first | exact trivial | (first | exact arg_lit | exact arg_sl id id | exact arg_nil | exact arg_sl (by simp) id | exact arg_sl (by simp) (fun _ => rfl) | exact arg_row_m (by rfl) (by rfl) (fun _ => rfl) | exact arg_vw_m (by rfl) (by rfl) (fun _ => rfl) | exact arg_rn (by rfl) (by rfl) | exact arg_junk | exact arg_row_mm (by rfl) (by rfl) (fun _ => rfl)) | refine ⟨?_, ?_⟩)); done) | fail) (rbegins _ _ _ _ _ _ _ (by first | assumption | omega) (by first | assumption | omega)) (hq := ?_))))) | (guard_target =~ (_ ∨ _) ∧ _; first | ((refine end_d [] (by rw [Tryd.results76, Lf.res2]) (ale_2 ?_ ?_) ?_) <;> (try (first | exact ale_eq (by with_reducible rfl) | exact ale_full | exact ale_sl (fun _ => rfl) | exact ale_sl (by simp) | exact ale_junk | exact ale_eq rfl | exact stq (by with_reducible rfl) | exact stq (by rfl) | exact stq (by simp (disch := omega) only [go_sem, seval, ↓reduceIte, hU]))))) | (refine hK _ _ ?_; clear hK K))
      all_goals trace_state
    by_cases hneg : s < 0
    · rw [if_neg h256, if_pos hneg] at hu
      have hon := ones_iff h01
      by_cases h7 : 7 < ((bitsL b).drop a).length
      · rw [if_pos (.inl h7)] at hu
        obtain ⟨rfl, rfl⟩ : d = [] ∧ e = 10 := by simp only [Prod.mk.injEq] at hu; exact hu
        have hU := And.intro @hsk1 (@hsk2)
        repeat' (first | (guard_target =~ PWp _ _ _ _ _ _ _; first | (refine pwp_seq_k (fun K hK => ?_)) | (refine pwp_block ?_) | (refine pwp_rg_then ?_) | (refine pwp_ret ?_) | (refine pwp_skip ?_) | (refine pwp_exit ?_) | ((refine pwp_cond_d (fun hcd => ?_) (fun hcd => ?_)) <;> (try simp only [hcP] at hcd) <;> (try (exfalso; first | omega | exact absurd hcd (by assumption) | exact absurd (by assumption) hcd)))) | (guard_target =~ rg _ _ _ _ _ _ _; first | (guard_target =~ rg _ _ _ [] _ _ _; first | (refine rg_end ?_)) | (refine rg_a rfl (h := ?_)) | (refine rg_x rfl (hy := rfl) (h := ?_)) | (refine rg_v rfl (h := ?_)) | (refine rg_s rfl ?_)) | (guard_target =~ SOp _ _ _ _ _ _; first | (guard_target =~ SOp _ _ ⟨_, .call ⟨.value (.func 102), _, _⟩, _, _, _, none⟩ _ _ _; first | (refine n_call (f := 102) rfl Tryd.call102 (h := AEq.pure' (by first | ((repeat' (first | exact trivial | (first | exact arg_lit | exact arg_sl id id | exact arg_nil | exact arg_sl (by simp) id | exact arg_sl (by simp) (fun _ => rfl) | exact arg_row_m (by rfl) (by rfl) (fun _ => rfl) | exact arg_vw_m (by rfl) (by rfl) (fun _ => rfl) | exact arg_rn (by rfl) (by rfl) | exact arg_junk | exact arg_row_mm (by rfl) (by rfl) (fun _ => rfl)) | refine ⟨?_, ?_⟩)); done) | fail) (rbegins _ _ _ _ _ _ _ (by first | assumption | omega) (by first | assumption | omega)) (hq := ?_))))) | (guard_target =~ (_ ∨ _) ∧ _; first | ((refine end_d [] (by rw [Tryd.results76, Lf.res2]) (ale_2 ?_ ?_) ?_) <;> (try (first | exact ale_eq (by with_reducible rfl) | exact ale_full | exact ale_sl (fun _ => rfl) | exact ale_sl (by simp) | exact ale_junk | exact ale_eq rfl | exact stq (by with_reducible rfl) | exact stq (by rfl) | exact stq (by simp (disch := omega) only [go_sem, seval, ↓reduceIte, hU]))))) | (refine hK _ _ ?_; clear hK K) | (apply_assumption (exfalso := false) (symm := false)))
        all_goals trace_state
      · generalize hl : (bitsL b).drop a = l at *
        have hU := And.intro @hsk1 (@hsk2)
        repeat' (first | (guard_target =~ PWp _ _ _ _ _ _ _; first | (refine pwp_seq_k (fun K hK => ?_)) | (refine pwp_block ?_) | (refine pwp_rg_then ?_) | (refine pwp_skip ?_) | (refine pwp_exit ?_) | ((refine pwp_cond_d (fun hcd => ?_) (fun hcd => ?_)) <;> (try simp only [hcP] at hcd) <;> (try (exfalso; first | omega | exact absurd hcd (by assumption) | exact absurd (by assumption) hcd)))) | (guard_target =~ rg _ _ _ _ _ _ _; first | (guard_target =~ rg _ _ _ [] _ _ _; first | (refine rg_end ?_)) | (refine rg_a rfl (h := ?_)) | (refine rg_x rfl (hy := rfl) (h := ?_)) | (refine rg_v rfl (h := ?_)) | (refine rg_s rfl ?_)) | (guard_target =~ SOp _ _ _ _ _ _; first | (guard_target =~ SOp _ _ ⟨_, .call ⟨.value (.func 102), _, _⟩, _, _, _, none⟩ _ _ _; first | (refine n_call (f := 102) rfl Tryd.call102 (h := AEq.pure' (by first | ((repeat' (first | exact trivial | (first | exact arg_lit | exact arg_sl id id | exact arg_nil | exact arg_sl (by simp) id | exact arg_sl (by simp) (fun _ => rfl) | exact arg_row_m (by rfl) (by rfl) (fun _ => rfl) | exact arg_vw_m (by rfl) (by rfl) (fun _ => rfl) | exact arg_rn (by rfl) (by rfl) | exact arg_junk | exact arg_row_mm (by rfl) (by rfl) (fun _ => rfl)) | refine ⟨?_, ?_⟩)); done) | fail) (rbegins _ _ _ _ _ _ _ (by first | assumption | omega) (by first | assumption | omega)) (hq := ?_))))) | (refine hK _ _ ?_; clear hK K) | (apply_assumption (exfalso := false) (symm := false)))
        refine pwp_loop_e [2, 3, 10, 37, 38, 39, 40, 41, 42, 43, 44, 45, 46, 47] (fun i : Nat => [(10, i64 i)]) (fun i => [.row o.length 5 1 (o.map byteA)]) (fun i => i ≤ l.length ∧ ∀ j, j < i → ¬ l[j]? = some 0) (fun i => l.length - i) 0 ⟨Nat.zero_le _, fun j h => absurd h (Nat.not_lt_zero _)⟩ ?_ rfl ?_
        · have hU := True.intro
          (refine ⟨⟨_, (by (try simp (disch := omega) only [go_sem, seval, ↓reduceIte, hU]) <;> rfl), ?_⟩, trivial⟩ <;> (try (first | exact ale_eq (by with_reducible rfl) | exact ale_full | exact ale_sl (fun _ => rfl) | exact ale_sl (by simp) | exact ale_junk | exact ale_eq rfl)))
        · rintro i ⟨hi, hz⟩
          simp only [mask, List.map_cons, List.map_nil, List.cons_append, List.nil_append]
          by_cases hlt : i < l.length
          · obtain ⟨x, hx⟩ := ex_at hlt
            by_cases hx0 : x = 0
            · subst hx0
              rw [if_pos (.inr (fun h => absurd (hon.2.1 h 0 (List.mem_of_getElem? hx)) (by decide)))] at hu
              obtain ⟨rfl, rfl⟩ : d = [] ∧ e = 10 := by simp only [Prod.mk.injEq] at hu; exact hu
              have hU := True.intro
              repeat' (first | (guard_target =~ PWp _ _ _ _ _ _ _; first | (refine pwp_seq_k (fun K hK => ?_)) | (refine pwp_block ?_) | (refine pwp_rg_then ?_) | (refine pwp_ret ?_) | (refine pwp_skip ?_) | ((refine pwp_cond_d (fun hcd => ?_) (fun hcd => ?_)) <;> (try simp only [hcP] at hcd) <;> (try (exfalso; first | omega | exact absurd hcd (by assumption) | exact absurd (by assumption) hcd)))) | (guard_target =~ rg _ _ _ _ _ _ _; first | (guard_target =~ rg _ _ _ [] _ _ _; first | (refine rg_end ?_)) | (refine rg_a rfl (h := ?_)) | (refine rg_v rfl (h := ?_)) | (refine rg_s rfl ?_)) | (guard_target =~ SOp _ _ _ _ _ _; first | (guard_target =~ SOp _ _ ⟨_, .indexAddr _ _ _, _, _, _, none⟩ _ _ _; first | (refine n_index rfl (hK := ?_)))) | (guard_target =~ (_ ∨ _) ∧ _; first | ((refine end_d [] (by rw [Tryd.results76, Lf.res2]) (ale_2 ?_ ?_) ?_) <;> (try (first | exact ale_eq (by with_reducible rfl) | exact ale_full | exact ale_sl (fun _ => rfl) | exact ale_sl (by simp) | exact ale_junk | exact ale_eq rfl | exact stq (by with_reducible rfl) | exact stq (by rfl) | exact stq (by simp (disch := omega) only [go_sem, seval, ↓reduceIte, hU]))))) | (refine hK _ _ ?_; clear hK K))
              all_goals trace_state
            · have hz2 : ∀ j, j < i + 1 → ¬ l[j]? = some 0 := by
                intro j hj
                by_cases hji : j = i
                · subst hji; rw [hx]; intro h; exact hx0 (by simpa using h)
                · exact hz j (by omega)
              have hU := True.intro
              repeat' (first | (guard_target =~ PWp _ _ _ _ _ _ _; first | (refine pwp_seq_k (fun K hK => ?_)) | (refine pwp_block ?_) | (refine pwp_rg_then ?_) | (refine pwp_skip ?_) | ((refine pwp_cond_d (fun hcd => ?_) (fun hcd => ?_)) <;> (try simp only [hcP] at hcd) <;> (try (exfalso; first | omega | exact absurd hcd (by assumption) | exact absurd (by assumption) hcd)))) | (guard_target =~ rg _ _ _ _ _ _ _; first | (guard_target =~ rg _ _ _ [] _ _ _; first | (refine rg_end ?_)) | (refine rg_a rfl (h := ?_)) | (refine rg_v rfl (h := ?_)) | (refine rg_s rfl ?_)) | (guard_target =~ SOp _ _ _ _ _ _; first | (guard_target =~ SOp _ _ ⟨_, .indexAddr _ _ _, _, _, _, none⟩ _ _ _; first | (refine n_index rfl (hK := ?_)))) | (refine hK _ _ ?_; clear hK K))
              refine ⟨i + 1, ⟨by omega, hz2⟩, by omega, ?_, (by repeat' (first | exact agr_refl | refine agr_cons (by rfl) ?_)), (by first | rfl | (simp (disch := omega) only [go_sem, seval, ↓reduceIte, hU]; done) | (simp (disch := omega) only [go_sem, seval, ↓reduceIte, hU]; rfl))⟩
              (refine ⟨⟨_, (by (try simp (disch := omega) only [go_sem, seval, ↓reduceIte, hU]) <;> rfl), ?_⟩, trivial⟩ <;> (try (first | exact ale_eq (by with_reducible rfl) | exact ale_full | exact ale_sl (fun _ => rfl) | exact ale_sl (by simp) | exact ale_junk | exact ale_eq rfl)))
          · have hall : numBits l = 2 ^ l.length - 1 := hon.2.2 (fun x hx => by
              obtain ⟨j, hj⟩ := List.mem_iff_getElem?.1 hx
              have hjl := (List.getElem?_eq_some_iff.1 hj).1
              rcases h01 x hx with rfl | h
              · exact absurd hj (hz j (by omega))
              · exact h)
            rw [if_neg (by omega)] at hu
            obtain ⟨rfl, rfl⟩ : d = o ∧ e = 0 := by simp only [Prod.mk.injEq] at hu; exact hu
            have hU := True.intro
            repeat' (first | (guard_target =~ PWp _ _ _ _ _ _ _; first | (refine pwp_seq_k (fun K hK => ?_)) | (refine pwp_rg_then ?_) | (refine pwp_ret ?_) | (refine pwp_exit ?_) | ((refine pwp_cond_d (fun hcd => ?_) (fun hcd => ?_)) <;> (try simp only [hcP] at hcd) <;> (try (exfalso; first | omega | exact absurd hcd (by assumption) | exact absurd (by assumption) hcd)))) | (guard_target =~ rg _ _ _ _ _ _ _; first | (guard_target =~ rg _ _ _ [] _ _ _; first | (refine rg_end ?_)) | (refine rg_a rfl (h := ?_)) | (refine rg_v rfl (h := ?_))) | (guard_target =~ (_ ∨ _) ∧ _; first | ((refine end_d [] (by rw [Tryd.results76, Lf.res2]) (ale_2 ?_ ?_) ?_) <;> (try (first | exact ale_eq (by with_reducible rfl) | exact ale_full | exact ale_sl (fun _ => rfl) | exact ale_sl (by simp) | exact ale_junk | exact ale_eq rfl | exact stq (by with_reducible rfl) | exact stq (by rfl) | exact stq (by simp (disch := omega) only [go_sem, seval, ↓reduceIte, hU]))))) | (refine hK _ _ ?_; clear hK K) | (apply_assumption (exfalso := false) (symm := false)))
            all_goals trace_state
    · rw [if_neg h256, if_neg hneg] at hu
      obtain ⟨s, rfl⟩ : ∃ t : Nat, s = t := ⟨s.toNat, by omega⟩
      obtain ⟨k, rfl⟩ : ∃ t : Nat, k = t := ⟨k.toNat, by omega⟩
      rw [Int.toNat_natCast, Int.toNat_natCast, List.drop_drop] at hu
      have hs6 : s < 256 := by omega
      have hol : (o ++ [UInt8.ofNat s]).length = o.length + 1 := by rw [List.length_append]; rfl
      have hsn : (UInt8.ofNat s).toNat = s := by simp; omega
      have hap : List.map byteA o ++ [[AV.lit (.int .u8 (s : Int))]] = List.map byteA (o ++ [UInt8.ofNat s]) := by rw [List.map_append]; show _ = List.map byteA o ++ [[AV.lit (.int .u8 ((UInt8.ofNat s).toNat : Int))]]; rw [hsn]
      have hdd : List.drop k (List.map intA (List.drop a (bitsL b))) = List.map intA (List.drop (a + k) (bitsL b)) := by rw [← List.map_drop, List.drop_drop]
      have hU := And.intro @hsk1 ( And.intro @hsk2 (@hap))
      repeat' (first | (guard_target =~ PWp _ _ _ _ _ _ _; first | (refine pwp_seq_k (fun K hK => ?_)) | (refine pwp_block ?_) | (refine pwp_rg_then ?_) | (refine pwp_rg ?_) | (refine pwp_skip ?_) | ((refine pwp_cond_d (fun hcd => ?_) (fun hcd => ?_)) <;> (try simp only [hcP] at hcd) <;> (try (exfalso; first | omega | exact absurd hcd (by assumption) | exact absurd (by assumption) hcd)))) | (guard_target =~ rg _ _ _ _ _ _ _; first | (guard_target =~ rg _ _ _ [] _ _ _; first | (refine rg_end ?_)) | (refine rg_a rfl (h := ?_)) | (refine rg_x rfl (hy := rfl) (h := ?_)) | (refine rg_v rfl (h := ?_)) | (refine rg_s rfl ?_)) | (guard_target =~ SOp _ _ _ _ _ _; first | (guard_target =~ SOp _ _ ⟨_, .buildSlice _ _ _, _, _, _, none⟩ _ _ _; first | (refine n_lit rfl (he := by first | exact eo3 | exact eo4 | exact eo5 | exact eo22 | exact eo28 | exact eo53 | fail) (hK := ?_))) | (guard_target =~ SOp _ _ ⟨_, .call ⟨.builtin .append, _, _⟩, _, _, _, none⟩ _ _ _; first | (refine n_append_row rfl (he := by first | exact eo3 | exact eo4 | exact eo5 | exact eo22 | exact eo28 | exact eo53 | fail) (hK := ?_))) | (guard_target =~ SOp _ _ ⟨_, .slice _ _ _ _ _, _, _, _, none⟩ _ _ _; first | (refine n_slice rfl (hg := (fun _ => (by simp only [go_sem, seval, ↓reduceIte, hU] <;> rfl))) (hK := ?_))) | (guard_target =~ SOp _ _ ⟨_, .call ⟨.value (.func 102), _, _⟩, _, _, _, none⟩ _ _ _; first | (refine n_call (f := 102) rfl Tryd.call102 (h := AEq.pure' (by first | ((repeat' (first | exact trivial | (first | exact arg_lit | exact arg_sl id id | exact arg_nil | exact arg_sl (by simp) id | exact arg_sl (by simp) (fun _ => rfl) | exact arg_row_m (by rfl) (by rfl) (fun _ => rfl) | exact arg_vw_m (by rfl) (by rfl) (fun _ => rfl) | exact arg_rn (by rfl) (by rfl) | exact arg_junk | exact arg_row_mm (by rfl) (by rfl) (fun _ => rfl)) | refine ⟨?_, ?_⟩)); done) | fail) (rbegins _ _ _ _ _ _ _ (by first | assumption | omega) (by first | assumption | omega)) (hq := ?_))))) | (refine hK _ _ ?_; clear hK K) | (dsimp only [Lf.thenQ, Lf.blockQ]))
      refine ⟨(a + k, o ++ [UInt8.ofNat s]), ⟨by dsimp only; omega, by dsimp only; rw [hol]; omega, hu.symm⟩, by dsimp only; omega, ?_, (by repeat' (first | exact agr_refl | refine agr_cons (by rfl) ?_)), ?_⟩
      · dsimp only
        rw [hol]
        (refine ⟨⟨_, (by (try simp (disch := omega) only [go_sem, seval, ↓reduceIte, hU]) <;> rfl), ?_⟩, ⟨_, (by (try simp (disch := omega) only [go_sem, seval, ↓reduceIte, hU]) <;> rfl), ?_⟩, trivial⟩ <;> (try (first | exact ale_eq (by with_reducible rfl) | exact ale_full | exact ale_sl (fun _ => rfl) | exact ale_sl (by simp) | exact ale_junk | exact ale_eq rfl)))
        all_goals exact ale_eq (by rw [List.drop_drop])
      · dsimp only
        rw [hol]
        first | rfl | (simp only [go_sem]; done) | (simp (disch := omega) only [go_sem, seval, ↓reduceIte, hsk1, hsk2, hap]; done) | trace_state
theorem rdecode (f q : Bool) (b : List UInt8) (hb : b.length ≤ 100000) : AEq Tryd.prog 76 [.sl f q (b.map byteA)] [] (.tu [.sl false false ((huM (bitsL b) 0 0 []).1.map byteA), i64 (huM (bitsL b) 0 0 []).2]) [] := rdecode0 f q b hb _ _ rfl
end Go.Proofs.YtohbfcmmpaikhaaDoor
