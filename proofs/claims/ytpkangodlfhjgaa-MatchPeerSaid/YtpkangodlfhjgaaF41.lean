import Derived.Test.YtpkangodlfhjgaaF40
import Derived.Test.YtpkangodlfhjgaaH07
import Derived.Test.YtpkangodlfhjgaaM02
import Derived.Test.YtpkangodlfhjgaaLc
set_option linter.unusedVariables false
set_option linter.unusedSimpArgs false
namespace Go.Proofs.Ytpkangodlfhjgaa
open Go Go.Lf Go.Proofs
attribute [local irreducible] Lf.rg Lf.ro Lf.PWp Lf.SOp Lf.ACall Lf.Scoped Lf.dg Lf.dw
set_option maxRecDepth 20000
set_option maxHeartbeats 4000000
theorem bTF {c : Bool} : c = true ∨ c = false := by cases c <;> simp
def kI (t g : Int) : Int := if hasB t g 8 = true then 1 else 0
def ahI (t g : Int) : Int := kI t g + (if hasB t g 32 = true then 5 else 0) + (if t = 5 then 4 else 0)
def u4 (b : List UInt8) (k : Int) : Int := getN (b.drop k.toNat) 4
def u1 (b : List UInt8) (k : Int) : Int := getN (b.drop k.toNat) 1
theorem rfright (w t g s : Int) (r f : Bool) (b : List UInt8) (hb : b.length ≤ 1000000000) : AEq Try.prog 15 [.ag [i64 w, i64 t, i64 g, i64 s, bl r, .sl f false (b.map byteA)]] [] (bl (decide (hdOk ⟨b.length, t, g, s, r⟩))) [] := by
  refine acall_body Try.func15 rfl Try.ntmps15 (by simp) (fun hsc => ?_); simp only [Lf.enter, Nat.reduceAdd]; clear hsc
  have hU := True.intro
  repeat' (first | (guard_target =~ PWp _ _ _ _ _ _ _; first | (refine pwp_seq_k (fun K hK => ?_)) | (refine pwp_rg_then ?_) | (refine pwp_ret ?_)) | (guard_target =~ rg _ _ _ _ _ _ _; first | (guard_target =~ rg _ _ _ (⟨_, .binOp _ _ _ _ _, _, _, _, some _⟩ :: _) _ _ _; first | (refine rg_gq rfl (h := ?_))) | (guard_target =~ rg _ _ _ (⟨_, .load _ _, _, _, _, some _⟩ :: _) _ _ _; first | (refine rg_gq rfl (h := ?_))) | (guard_target =~ rg _ _ _ (⟨_, .fieldAddr _ _ _, _, _, _, some _⟩ :: _) _ _ _; first | (refine rg_gq rfl (h := ?_))) | (guard_target =~ rg _ _ _ (⟨_, .call ⟨.builtin .len, _, _⟩, _, _, _, some _⟩ :: _) _ _ _; first | (refine rg_gq rfl (h := ?_))) | (guard_target =~ rg _ _ _ [] _ _ _; first | (refine rg_end ?_)) | (refine rg_a rfl (h := ?_)) | (refine rg_v rfl (h := ?_)) | (refine rg_s rfl ?_)) | (guard_target =~ SOp _ _ _ _ _ _; first | (guard_target =~ SOp _ _ ⟨_, .box _ _, _, _, _, none⟩ _ _ _; first | (refine n_box rfl (hK := ?_)))) | (guard_target =~ (_ ∨ _) ∧ _; first | ((refine end_d [] (by rw [Try.results15, Lf.res1]) (ale_1 ?_) ?_) <;> (try (first | exact ale_eq (by with_reducible rfl) | exact ale_full | exact ale_sl (fun _ => rfl) | exact ale_sl (by simp) | exact ale_junk | exact ale_eq rfl | exact stq (by with_reducible rfl) | exact stq (by rfl) | exact stq (by simp (disch := omega) only [go_sem, seval, ↓reduceIte, hU]))))) | (refine hK _ _ ?_; clear hK K))
  all_goals first | exact ale_bl (by symm; rw [decide_eq_true_eq]; unfold hdOk; dsimp only; omega) | exact ale_bl (by symm; rw [decide_eq_false_iff_not]; unfold hdOk; dsimp only; omega) | exact ale_bl (by rw [Bool.eq_iff_iff]; simp only [Bool.and_eq_true, decide_eq_true_eq]; unfold hdOk; dsimp only; omega)
theorem lenB_cases (t g : Int) (n : Nat) :
    (t = 2 ∧ lenB t g n = decide (n = 5)) ∨ (t = 3 ∧ lenB t g n = decide (n = 4)) ∨ (t = 8 ∧ lenB t g n = decide (n = 4)) ∨ (t = 6 ∧ lenB t g n = decide (n = 8)) ∨ (t = 7 ∧ lenB t g n = decide (8 ≤ n)) ∨
    (t = 4 ∧ hasB 4 g 1 = true ∧ lenB t g n = decide (n = 0)) ∨ (t = 4 ∧ hasB 4 g 1 = false ∧ lenB t g n = decide (n % 6 = 0)) ∨ (¬ t = 2 ∧ ¬ t = 3 ∧ ¬ t = 8 ∧ ¬ t = 6 ∧ ¬ t = 7 ∧ ¬ t = 4 ∧ lenB t g n = true) := by
  by_cases h2 : t = 2
  · subst h2; exact .inl ⟨rfl, rfl⟩
  by_cases h3 : t = 3
  · subst h3; exact .inr (.inl ⟨rfl, rfl⟩)
  by_cases h8 : t = 8
  · subst h8; exact .inr (.inr (.inl ⟨rfl, rfl⟩))
  by_cases h6 : t = 6
  · subst h6; exact .inr (.inr (.inr (.inl ⟨rfl, rfl⟩)))
  by_cases h7 : t = 7
  · subst h7; exact .inr (.inr (.inr (.inr (.inl ⟨rfl, rfl⟩))))
  by_cases h4 : t = 4
  · subst h4
    rcases bTF (c := hasB 4 g 1) with hH | hH
    · exact .inr (.inr (.inr (.inr (.inr (.inl ⟨rfl, hH, (lenB_4 g n).trans (if_pos hH)⟩)))))
    · exact .inr (.inr (.inr (.inr (.inr (.inr (.inl ⟨rfl, hH, (lenB_4 g n).trans (if_neg (by rw [hH]; simp))⟩))))))
  refine .inr (.inr (.inr (.inr (.inr (.inr (.inr ⟨h2, h3, h8, h6, h7, h4, ?_⟩))))))
  unfold lenB
  rw [if_neg h2, if_neg (by omega), if_neg h6, if_neg h7, if_neg h4]
theorem rflen (w t g s : Int) (r f : Bool) (b : List UInt8) (hg0 : 0 ≤ g) (hg1 : g < 256) (hb : b.length ≤ 1000000000) : AEq Try.prog 73 [.ag [i64 w, i64 t, i64 g, i64 s, bl r, .sl f false (b.map byteA)]] [] (bl (lenB t g b.length)) [] := by
  rcases lenB_cases t g b.length with ⟨rfl, e⟩ | ⟨rfl, e⟩ | ⟨rfl, e⟩ | ⟨rfl, e⟩ | ⟨rfl, e⟩ | ⟨rfl, hH, e⟩ | ⟨rfl, hH, e⟩ | ⟨n2, n3, n8, n6, n7, n4, e⟩
  all_goals rw [e]
  all_goals (have hV : (0 : Int) = 0 := rfl)
  all_goals (have hH2 := hV)
  all_goals (try (have hH2 := hH))
  all_goals (refine acall_body Try.func73 rfl Try.ntmps73 (by simp) (fun hsc => ?_); simp only [Lf.enter, Nat.reduceAdd]; clear hsc)
  all_goals (have hU := @hH2)
  all_goals (repeat' (first | (guard_target =~ PWp _ _ _ _ _ _ _; first | (refine pwp_seq_k (fun K hK => ?_)) | (refine pwp_block ?_) | (refine pwp_rg_then ?_) | (refine pwp_ret ?_) | (refine pwp_skip ?_) | ((refine pwp_cond_d (fun hcd => ?_) (fun hcd => ?_)) <;> (try simp only [hcP] at hcd) <;> (try (exfalso; first | omega | exact absurd hcd (by assumption) | exact absurd (by assumption) hcd)))) | (guard_target =~ rg _ _ _ _ _ _ _; first | (guard_target =~ rg _ _ _ [] _ _ _; first | (refine rg_end ?_)) | (refine rg_a rfl (h := ?_)) | (refine rg_v rfl (h := ?_)) | (refine rg_s rfl ?_)) | (guard_target =~ SOp _ _ _ _ _ _; first | (guard_target =~ SOp _ _ ⟨_, .call ⟨.value (.func 48), _, _⟩, _, _, _, none⟩ _ _ _; first | (refine n_call (f := 48) rfl Try.call48 (h := AEq.pure' (by first | ((repeat' (first | exact trivial | (first | exact arg_lit | exact arg_sl id id | exact arg_nil | exact arg_sl (by simp) id | exact arg_sl (by simp) (fun _ => rfl) | exact arg_row_m (by rfl) (by rfl) (fun _ => rfl) | exact arg_vw_m (by rfl) (by rfl) (fun _ => rfl) | exact arg_rn (by rfl) (by rfl) | exact arg_junk | exact arg_row_mm (by rfl) (by rfl) (fun _ => rfl)) | refine ⟨?_, ?_⟩)); done) | fail) (rkhas1 _ _ _ (by first | assumption | omega) (by first | assumption | omega) (by first | assumption | omega)) (hq := ?_)))) | (guard_target =~ SOp _ _ ⟨_, .box _ _, _, _, _, none⟩ _ _ _; first | (refine n_box rfl (hK := ?_)))) | (guard_target =~ (_ ∨ _) ∧ _; first | ((refine end_d [] (by rw [Try.results73, Lf.res1]) (ale_1 ?_) ?_) <;> (try (first | exact ale_eq (by with_reducible rfl) | exact ale_full | exact ale_sl (fun _ => rfl) | exact ale_sl (by simp) | exact ale_junk | exact ale_eq rfl | exact stq (by with_reducible rfl) | exact stq (by rfl) | exact stq (by simp (disch := omega) only [go_sem, seval, ↓reduceIte, hU]))))) | (refine hK _ _ ?_; clear hK K)))
  all_goals exact ale_bl (by grind)
theorem ahI_cases (t g : Int) : ∃ c8 c32, hasB t g 8 = c8 ∧ hasB t g 32 = c32 ∧
    ((t = 5 ∧ c8 = true ∧ c32 = false ∧ ahI t g = 5) ∨ (t = 5 ∧ c8 = false ∧ c32 = false ∧ ahI t g = 4) ∨ (¬ t = 5 ∧ c8 = true ∧ c32 = true ∧ ahI t g = 6) ∨ (¬ t = 5 ∧ c8 = false ∧ c32 = true ∧ ahI t g = 5) ∨ (¬ t = 5 ∧ c8 = true ∧ c32 = false ∧ ahI t g = 1) ∨ (¬ t = 5 ∧ c8 = false ∧ c32 = false ∧ ahI t g = 0)) := by
  refine ⟨_, _, rfl, rfl, ?_⟩
  by_cases h5 : t = 5
  · subst h5
    have h32 := hasB_n32 (t := 5) (g := g) (by decide)
    rcases bTF (c := hasB 5 g 8) with h8 | h8
    · exact .inl ⟨rfl, h8, h32, by unfold ahI kI; rw [f_t h8, f_f h32, if_pos rfl]; rfl⟩
    · exact .inr (.inl ⟨rfl, h8, h32, by unfold ahI kI; rw [f_f h8, f_f h32, if_pos rfl]; rfl⟩)
  · rcases bTF (c := hasB t g 32) with h32 | h32
    · rcases bTF (c := hasB t g 8) with h8 | h8
      · exact .inr (.inr (.inl ⟨h5, h8, h32, by unfold ahI kI; rw [f_t h8, f_t h32, if_neg h5]; rfl⟩))
      · exact .inr (.inr (.inr (.inl ⟨h5, h8, h32, by unfold ahI kI; rw [f_f h8, f_t h32, if_neg h5]; rfl⟩)))
    · rcases bTF (c := hasB t g 8) with h8 | h8
      · exact .inr (.inr (.inr (.inr (.inl ⟨h5, h8, h32, by unfold ahI kI; rw [f_t h8, f_f h32, if_neg h5]; rfl⟩))))
      · exact .inr (.inr (.inr (.inr (.inr ⟨h5, h8, h32, by unfold ahI kI; rw [f_f h8, f_f h32, if_neg h5]; rfl⟩))))
theorem rfahead (w t g s : Int) (r f : Bool) (b : List UInt8) (hg0 : 0 ≤ g) (hg1 : g < 256) (hb : b.length ≤ 1000000000) : AEq Try.prog 74 [.ag [i64 w, i64 t, i64 g, i64 s, bl r, .sl f false (b.map byteA)]] [] (i64 (ahI t g)) [] := by
  obtain ⟨c8, c32, h8, h32, hc⟩ := ahI_cases t g
  rcases hc with ⟨h5, rfl, rfl, e⟩ | ⟨h5, rfl, rfl, e⟩ | ⟨h5, rfl, rfl, e⟩ | ⟨h5, rfl, rfl, e⟩ | ⟨h5, rfl, rfl, e⟩ | ⟨h5, rfl, rfl, e⟩
  all_goals rw [e]
  all_goals (refine acall_body Try.func74 rfl Try.ntmps74 (by simp) (fun hsc => ?_); simp only [Lf.enter, Nat.reduceAdd]; clear hsc)
  all_goals (have hU := And.intro @h8 (@h32))
  all_goals (repeat' (first | (guard_target =~ PWp _ _ _ _ _ _ _; first | (refine pwp_seq_k (fun K hK => ?_)) | (refine pwp_rg_then ?_) | (refine pwp_ret ?_) | (refine pwp_skip ?_) | ((refine pwp_cond_d (fun hcd => ?_) (fun hcd => ?_)) <;> (try simp only [hcP] at hcd) <;> (try (exfalso; first | omega | exact absurd hcd (by assumption) | exact absurd (by assumption) hcd)))) | (guard_target =~ rg _ _ _ _ _ _ _; first | (guard_target =~ rg _ _ _ [] _ _ _; first | (refine rg_end ?_)) | (refine rg_a rfl (h := ?_)) | (refine rg_v rfl (h := ?_)) | (refine rg_s rfl ?_)) | (guard_target =~ SOp _ _ _ _ _ _; first | (guard_target =~ SOp _ _ ⟨_, .call ⟨.value (.func 48), _, _⟩, _, _, _, none⟩ _ _ _; first | (refine n_call (f := 48) rfl Try.call48 (h := AEq.pure' (by first | ((repeat' (first | exact trivial | (first | exact arg_lit | exact arg_sl id id | exact arg_nil | exact arg_sl (by simp) id | exact arg_sl (by simp) (fun _ => rfl) | exact arg_row_m (by rfl) (by rfl) (fun _ => rfl) | exact arg_vw_m (by rfl) (by rfl) (fun _ => rfl) | exact arg_rn (by rfl) (by rfl) | exact arg_junk | exact arg_row_mm (by rfl) (by rfl) (fun _ => rfl)) | refine ⟨?_, ?_⟩)); done) | fail) (rkhas8 _ _ _ (by first | assumption | omega) (by first | assumption | omega) (by first | assumption | omega)) (hq := ?_))) | (refine n_call (f := 48) rfl Try.call48 (h := AEq.pure' (by first | ((repeat' (first | exact trivial | (first | exact arg_lit | exact arg_sl id id | exact arg_nil | exact arg_sl (by simp) id | exact arg_sl (by simp) (fun _ => rfl) | exact arg_row_m (by rfl) (by rfl) (fun _ => rfl) | exact arg_vw_m (by rfl) (by rfl) (fun _ => rfl) | exact arg_rn (by rfl) (by rfl) | exact arg_junk | exact arg_row_mm (by rfl) (by rfl) (fun _ => rfl)) | refine ⟨?_, ?_⟩)); done) | fail) (rkhas32 _ _ _ (by first | assumption | omega) (by first | assumption | omega) (by first | assumption | omega)) (hq := ?_)))) | (guard_target =~ SOp _ _ ⟨_, .box _ _, _, _, _, none⟩ _ _ _; first | (refine n_box rfl (hK := ?_)))) | (guard_target =~ (_ ∨ _) ∧ _; first | ((refine end_d [] (by rw [Try.results74, Lf.res1]) (ale_1 ?_) ?_) <;> (try (first | exact ale_eq (by with_reducible rfl) | exact ale_full | exact ale_sl (fun _ => rfl) | exact ale_sl (by simp) | exact ale_junk | exact ale_eq rfl | exact stq (by with_reducible rfl) | exact stq (by rfl) | exact stq (by simp (disch := omega) only [go_sem, seval, ↓reduceIte, hU]))))) | (refine hK _ _ ?_; clear hK K)))
theorem kI_ah {t g : Int} : 0 ≤ kI t g ∧ kI t g ≤ ahI t g ∧ ahI t g ≤ 10 := by
  unfold ahI kI
  repeat' split
  all_goals omega
theorem lenB_sc {t g : Int} {n : Nat} (h : lenB t g n = false) : scI t = if t = 2 then 1 else 2 := by
  unfold scI
  by_cases h2 : t = 2
  · rw [if_pos (.inr h2), if_pos h2]
  · by_cases h0 : t = 0
    · subst h0; rw [show lenB 0 g n = true from rfl] at h; exact absurd h (by simp)
    · rw [if_neg (by omega), if_neg h2]
theorem ahI_sc {t g : Int} (h : 0 < ahI t g) : scI t = if t = 0 then 1 else 2 := by
  unfold scI
  by_cases h0 : t = 0
  · rw [if_pos (.inl h0), if_pos h0]
  · by_cases h2 : t = 2
    · subst h2
      exfalso
      unfold ahI kI at h
      rw [f_f (hasB_n8 (by decide) (by decide) (by decide)), f_f (hasB_n32 (by decide)), if_neg (by decide)] at h
      omega
    · rw [if_neg (by omega), if_neg h0]
theorem getN_first {b : List UInt8} {x : UInt8} (h : b[0]? = some x) : getN b 1 = x.toNat := by
  have := getN_one b 0 x h
  rwa [List.drop_zero] at this
def fauM (t g s : Int) (b : List UInt8) : Int × Int :=
  if strOk t s = false then (2, 1) else if lenB t g b.length = false then (if t = 2 then 1 else 2, 6) else if (b.length : Int) < ahI t g then (if t = 0 then 1 else 2, 6)
  else if hasB t g 8 = true ∧ (b.length : Int) - ahI t g < getN b 1 then (2, 1) else (0, 0)
theorem fauM_cases (t g s : Int) (b : List UInt8) : ∃ st, strI t = st ∧
    (((st = 0 ∧ ¬ s = 0 ∨ st = 1 ∧ s = 0) ∧ lenB t g b.length = lenB t g b.length ∧ hasB t g 8 = hasB t g 8 ∧ fauM t g s b = (2, 1)) ∨
    (((st = 0 ∧ s = 0) ∨ (st = 1 ∧ ¬ s = 0) ∨ (¬ st = 0 ∧ ¬ st = 1)) ∧ ((lenB t g b.length = false ∧ hasB t g 8 = hasB t g 8 ∧ ((t = 2 ∧ fauM t g s b = (1, 6)) ∨ (¬ t = 2 ∧ fauM t g s b = (2, 6)))) ∨
      (lenB t g b.length = true ∧ (((b.length : Int) < ahI t g ∧ hasB t g 8 = hasB t g 8 ∧ ((t = 0 ∧ fauM t g s b = (1, 6)) ∨ (¬ t = 0 ∧ fauM t g s b = (2, 6)))) ∨
        (¬ (b.length : Int) < ahI t g ∧ ((hasB t g 8 = true ∧ 1 ≤ ahI t g ∧ ∃ x, b[0]? = some x ∧ ((((b.length : Int) - ahI t g < x.toNat) ∧ fauM t g s b = (2, 1)) ∨ (¬ ((b.length : Int) - ahI t g < x.toNat) ∧ fauM t g s b = (0, 0)))) ∨
          (hasB t g 8 = false ∧ fauM t g s b = (0, 0))))))))) := by
  refine ⟨_, rfl, ?_⟩
  rcases bTF (c := strOk t s) with h1 | h1
  · right
    have n1 : ¬ strOk t s = false := by rw [h1]; simp
    refine ⟨?_, ?_⟩
    · unfold strOk at h1
      split at h1
      · exact .inl ⟨by assumption, of_decide_eq_true h1⟩
      · split at h1
        · exact .inr (.inl ⟨by assumption, by simpa using h1⟩)
        · exact .inr (.inr ⟨by assumption, by assumption⟩)
    rcases bTF (c := lenB t g b.length) with h2 | h2
    · right
      have n2 : ¬ lenB t g b.length = false := by rw [h2]; simp
      refine ⟨h2, ?_⟩
      by_cases hS : (b.length : Int) < ahI t g
      · left
        refine ⟨hS, rfl, ?_⟩
        by_cases h0 : t = 0
        · exact .inl ⟨h0, by unfold fauM; rw [if_neg n1, if_neg n2, if_pos hS, if_pos h0]⟩
        · exact .inr ⟨h0, by unfold fauM; rw [if_neg n1, if_neg n2, if_pos hS, if_neg h0]⟩
      · right
        refine ⟨hS, ?_⟩
        rcases bTF (c := hasB t g 8) with h8 | h8
        · left
          have hk2 := kI_ah (t := t) (g := g)
          have hk : kI t g = 1 := f_t h8
          have h1a : 1 ≤ ahI t g := by omega
          obtain ⟨x, hx⟩ : ∃ x, b[0]? = some x := ⟨b[0]'(by omega), List.getElem?_eq_getElem (by omega)⟩
          have hgx := getN_first hx
          refine ⟨h8, h1a, x, hx, ?_⟩
          by_cases hP : (b.length : Int) - ahI t g < x.toNat
          · exact .inl ⟨hP, by unfold fauM; rw [if_neg n1, if_neg n2, if_neg hS, if_pos ⟨h8, by rw [hgx]; exact hP⟩]⟩
          · exact .inr ⟨hP, by unfold fauM; rw [if_neg n1, if_neg n2, if_neg hS, if_neg (by rw [hgx]; exact fun h => hP h.2)]⟩
        · right
          exact ⟨h8, by unfold fauM; rw [if_neg n1, if_neg n2, if_neg hS, if_neg (by rw [h8]; simp)]⟩
    · left
      refine ⟨h2, rfl, ?_⟩
      by_cases h0 : t = 2
      · exact .inl ⟨h0, by unfold fauM; rw [if_neg n1, if_pos h2, if_pos h0]⟩
      · exact .inr ⟨h0, by unfold fauM; rw [if_neg n1, if_pos h2, if_neg h0]⟩
  · left
    refine ⟨?_, rfl, rfl, if_pos h1⟩
    unfold strOk at h1
    split at h1
    · exact .inl ⟨by assumption, of_decide_eq_false h1⟩
    · split at h1
      · exact .inr ⟨by assumption, by simpa using h1⟩
      · exact absurd h1 (by simp)
theorem rffault (w t g s : Int) (r f : Bool) (b : List UInt8) (hg0 : 0 ≤ g) (hg1 : g < 256) (hb : b.length ≤ 1000000000) : AEq Try.prog 47 [.ag [i64 w, i64 t, i64 g, i64 s, bl r, .sl f false (b.map byteA)]] [] (.ag [i64 (fauM t g s b).1, i64 (fauM t g s b).2]) [] := by
  have hk := kI_ah (t := t) (g := g)
  obtain ⟨st, q1, hc⟩ := fauM_cases t g s b
  rcases hc with ⟨q2, h2, h8, e⟩ | ⟨q2, ⟨h2, h8, ⟨h0, e⟩ | ⟨h0, e⟩⟩ | ⟨h2, ⟨hS, h8, ⟨h0, e⟩ | ⟨h0, e⟩⟩ | ⟨hS, ⟨h8, h1a, x, hx, ⟨hP, e⟩ | ⟨hP, e⟩⟩ | ⟨h8, e⟩⟩⟩⟩
  all_goals rw [e]
  all_goals (refine acall_body Try.func47 rfl Try.ntmps47 (by simp) (fun hsc => ?_); simp only [Lf.enter, Nat.reduceAdd]; clear hsc)
  all_goals (have hU := And.intro @q1 ( And.intro @h2 (@h8)))
  all_goals (repeat' (first | (guard_target =~ PWp _ _ _ _ _ _ _; first | (refine pwp_seq_k (fun K hK => ?_)) | (refine pwp_rg_then ?_) | (refine pwp_draw mixed (by kernel_rfl) ?_) | (refine pwp_ret ?_) | (refine pwp_skip ?_) | ((refine pwp_cond_d (fun hcd => ?_) (fun hcd => ?_)) <;> (try simp only [hcP] at hcd) <;> (try (exfalso; first | omega | exact absurd hcd (by assumption) | exact absurd (by assumption) hcd)))) | (guard_target =~ rg _ _ _ _ _ _ _; first | (guard_target =~ rg _ _ _ (⟨_, .binOp _ _ _ _ _, _, _, _, some _⟩ :: _) _ _ _; first | (refine rg_gtp rfl (h := ?_)) | (refine rg_gf rfl (hn := rfl) (h := ?_)) | (refine rg_gn rfl (h := ?_)) | (refine rg_gq rfl (h := ?_)) | ((first | refine rg_case (by simp only [go_sem, seval, ↓reduceIte, hU] <;> rfl) (fun hcd => ?_) (fun hcd => ?_) | refine rg_case2 (by simp only [go_sem, seval, ↓reduceIte, hU] <;> rfl) (fun hcd => ?_) (fun hcd => ?_)) <;> (try simp only [hcd]) <;> (try (simp only [Bool.not_eq_true', Bool.not_eq_false'] at hcd; try simp only [hcd])) <;> (refine rg_w (Γ2 := _) (by repeat' (first | exact envw_nil | apply envw_cons | exact opens_t | exact opens_f | exact opens_r)) ?_) <;> (try simp only [hcP] at hcd) <;> (try (exfalso; first | omega | exact absurd hcd (by assumption) | exact absurd (by assumption) hcd)))) | (guard_target =~ rg _ _ _ (⟨_, .load _ _, _, _, _, some _⟩ :: _) _ _ _; first | (refine rg_gtp rfl (h := ?_)) | (refine rg_gf rfl (hn := rfl) (h := ?_)) | (refine rg_gn rfl (h := ?_)) | (refine rg_gq rfl (h := ?_)) | ((first | refine rg_case (by simp only [go_sem, seval, ↓reduceIte, hU] <;> rfl) (fun hcd => ?_) (fun hcd => ?_) | refine rg_case2 (by simp only [go_sem, seval, ↓reduceIte, hU] <;> rfl) (fun hcd => ?_) (fun hcd => ?_)) <;> (try simp only [hcd]) <;> (try (simp only [Bool.not_eq_true', Bool.not_eq_false'] at hcd; try simp only [hcd])) <;> (refine rg_w (Γ2 := _) (by repeat' (first | exact envw_nil | apply envw_cons | exact opens_t | exact opens_f | exact opens_r)) ?_) <;> (try simp only [hcP] at hcd) <;> (try (exfalso; first | omega | exact absurd hcd (by assumption) | exact absurd (by assumption) hcd)))) | (guard_target =~ rg _ _ _ (⟨_, .fieldAddr _ _ _, _, _, _, some _⟩ :: _) _ _ _; first | (refine rg_gtp rfl (h := ?_)) | (refine rg_gf rfl (hn := rfl) (h := ?_)) | (refine rg_gn rfl (h := ?_)) | (refine rg_gq rfl (h := ?_)) | ((first | refine rg_case (by simp only [go_sem, seval, ↓reduceIte, hU] <;> rfl) (fun hcd => ?_) (fun hcd => ?_) | refine rg_case2 (by simp only [go_sem, seval, ↓reduceIte, hU] <;> rfl) (fun hcd => ?_) (fun hcd => ?_)) <;> (try simp only [hcd]) <;> (try (simp only [Bool.not_eq_true', Bool.not_eq_false'] at hcd; try simp only [hcd])) <;> (refine rg_w (Γ2 := _) (by repeat' (first | exact envw_nil | apply envw_cons | exact opens_t | exact opens_f | exact opens_r)) ?_) <;> (try simp only [hcP] at hcd) <;> (try (exfalso; first | omega | exact absurd hcd (by assumption) | exact absurd (by assumption) hcd)))) | (guard_target =~ rg _ _ _ (⟨_, .move _, _, _, _, some _⟩ :: _) _ _ _; first | (refine rg_gtp rfl (h := ?_)) | (refine rg_gf rfl (hn := rfl) (h := ?_)) | (refine rg_gn rfl (h := ?_)) | (refine rg_gq rfl (h := ?_)) | ((first | refine rg_case (by simp only [go_sem, seval, ↓reduceIte, hU] <;> rfl) (fun hcd => ?_) (fun hcd => ?_) | refine rg_case2 (by simp only [go_sem, seval, ↓reduceIte, hU] <;> rfl) (fun hcd => ?_) (fun hcd => ?_)) <;> (try simp only [hcd]) <;> (try (simp only [Bool.not_eq_true', Bool.not_eq_false'] at hcd; try simp only [hcd])) <;> (refine rg_w (Γ2 := _) (by repeat' (first | exact envw_nil | apply envw_cons | exact opens_t | exact opens_f | exact opens_r)) ?_) <;> (try simp only [hcP] at hcd) <;> (try (exfalso; first | omega | exact absurd hcd (by assumption) | exact absurd (by assumption) hcd)))) | (guard_target =~ rg _ _ _ (⟨_, .indexAddr _ _ _, _, _, _, some _⟩ :: _) _ _ _; first | (refine rg_gtp rfl (h := ?_)) | (refine rg_gf rfl (hn := rfl) (h := ?_)) | (refine rg_gn rfl (h := ?_)) | (refine rg_gq rfl (h := ?_)) | ((first | refine rg_case (by simp only [go_sem, seval, ↓reduceIte, hU] <;> rfl) (fun hcd => ?_) (fun hcd => ?_) | refine rg_case2 (by simp only [go_sem, seval, ↓reduceIte, hU] <;> rfl) (fun hcd => ?_) (fun hcd => ?_)) <;> (try simp only [hcd]) <;> (try (simp only [Bool.not_eq_true', Bool.not_eq_false'] at hcd; try simp only [hcd])) <;> (refine rg_w (Γ2 := _) (by repeat' (first | exact envw_nil | apply envw_cons | exact opens_t | exact opens_f | exact opens_r)) ?_) <;> (try simp only [hcP] at hcd) <;> (try (exfalso; first | omega | exact absurd hcd (by assumption) | exact absurd (by assumption) hcd)))) | (guard_target =~ rg _ _ _ (⟨_, .call ⟨.builtin .len, _, _⟩, _, _, _, some _⟩ :: _) _ _ _; first | (refine rg_gtp rfl (h := ?_)) | (refine rg_gf rfl (hn := rfl) (h := ?_)) | (refine rg_gn rfl (h := ?_)) | (refine rg_gq rfl (h := ?_)) | ((first | refine rg_case (by simp only [go_sem, seval, ↓reduceIte, hU] <;> rfl) (fun hcd => ?_) (fun hcd => ?_) | refine rg_case2 (by simp only [go_sem, seval, ↓reduceIte, hU] <;> rfl) (fun hcd => ?_) (fun hcd => ?_)) <;> (try simp only [hcd]) <;> (try (simp only [Bool.not_eq_true', Bool.not_eq_false'] at hcd; try simp only [hcd])) <;> (refine rg_w (Γ2 := _) (by repeat' (first | exact envw_nil | apply envw_cons | exact opens_t | exact opens_f | exact opens_r)) ?_) <;> (try simp only [hcP] at hcd) <;> (try (exfalso; first | omega | exact absurd hcd (by assumption) | exact absurd (by assumption) hcd)))) | (guard_target =~ rg _ _ _ (⟨_, .convert _ _ _, _, _, _, some _⟩ :: _) _ _ _; first | (refine rg_gtp rfl (h := ?_)) | (refine rg_gf rfl (hn := rfl) (h := ?_)) | (refine rg_gn rfl (h := ?_)) | (refine rg_gq rfl (h := ?_)) | ((first | refine rg_case (by simp only [go_sem, seval, ↓reduceIte, hU] <;> rfl) (fun hcd => ?_) (fun hcd => ?_) | refine rg_case2 (by simp only [go_sem, seval, ↓reduceIte, hU] <;> rfl) (fun hcd => ?_) (fun hcd => ?_)) <;> (try simp only [hcd]) <;> (try (simp only [Bool.not_eq_true', Bool.not_eq_false'] at hcd; try simp only [hcd])) <;> (refine rg_w (Γ2 := _) (by repeat' (first | exact envw_nil | apply envw_cons | exact opens_t | exact opens_f | exact opens_r)) ?_) <;> (try simp only [hcP] at hcd) <;> (try (exfalso; first | omega | exact absurd hcd (by assumption) | exact absurd (by assumption) hcd)))) | (guard_target =~ rg _ _ _ (⟨_, .pick _ _ _, _, _, _, some _⟩ :: _) _ _ _; first | (refine rg_gtp rfl (h := ?_)) | (refine rg_gf rfl (hn := rfl) (h := ?_)) | (refine rg_gn rfl (h := ?_)) | (refine rg_gq rfl (h := ?_)) | ((first | refine rg_case (by simp only [go_sem, seval, ↓reduceIte, hU] <;> rfl) (fun hcd => ?_) (fun hcd => ?_) | refine rg_case2 (by simp only [go_sem, seval, ↓reduceIte, hU] <;> rfl) (fun hcd => ?_) (fun hcd => ?_)) <;> (try simp only [hcd]) <;> (try (simp only [Bool.not_eq_true', Bool.not_eq_false'] at hcd; try simp only [hcd])) <;> (refine rg_w (Γ2 := _) (by repeat' (first | exact envw_nil | apply envw_cons | exact opens_t | exact opens_f | exact opens_r)) ?_) <;> (try simp only [hcP] at hcd) <;> (try (exfalso; first | omega | exact absurd hcd (by assumption) | exact absurd (by assumption) hcd)))) | (guard_target =~ rg _ _ _ [] _ _ _; first | (refine rg_end ?_)) | (refine rg_a rfl (h := ?_)) | (refine rg_v rfl (h := ?_)) | (refine rg_s rfl ?_) | (refine rg_n rfl ?_)) | (guard_target =~ SOp _ _ _ _ _ _; first | (guard_target =~ SOp _ _ ⟨_, .store _ _ _, _, _, _, none⟩ _ _ _; first | (refine n_store rfl (hK := ?_))) | (guard_target =~ SOp _ _ ⟨_, .build _ _, _, _, _, none⟩ _ _ _; first | (refine n_build rfl (by first | exact bd24 | exact bd30 | fail) (hK := ?_))) | (guard_target =~ SOp _ _ ⟨_, .alloc _, _, _, _, none⟩ _ _ _; first | (refine n_alloc rfl (by first | exact zv3 | exact zv4 | exact zv5 | exact zv22 | exact zv24 | exact zv30 | fail) (hK := ?_))) | (guard_target =~ SOp _ _ ⟨_, .call ⟨.value (.func 74), _, _⟩, _, _, _, none⟩ _ _ _; first | (refine n_call (f := 74) rfl Try.call74 (h := AEq.pure' (by first | ((repeat' (first | exact trivial | (first | exact arg_lit | exact arg_sl id id | exact arg_nil | exact arg_sl (by simp) id | exact arg_sl (by simp) (fun _ => rfl) | exact arg_row_m (by rfl) (by rfl) (fun _ => rfl) | exact arg_vw_m (by rfl) (by rfl) (fun _ => rfl) | exact arg_rn (by rfl) (by rfl) | exact arg_junk | exact arg_row_mm (by rfl) (by rfl) (fun _ => rfl)) | refine ⟨?_, ?_⟩)); done) | fail) (rfahead _ _ _ _ _ _ _ (by first | assumption | omega) (by first | assumption | omega) (by first | assumption | omega)) (hq := ?_)))) | (guard_target =~ SOp _ _ ⟨_, .call ⟨.value (.func 72), _, _⟩, _, _, _, none⟩ _ _ _; first | (refine n_call (f := 72) rfl Try.call72 (h := AEq.pure' (by first | ((repeat' (first | exact trivial | (first | exact arg_lit | exact arg_sl id id | exact arg_nil | exact arg_sl (by simp) id | exact arg_sl (by simp) (fun _ => rfl) | exact arg_row_m (by rfl) (by rfl) (fun _ => rfl) | exact arg_vw_m (by rfl) (by rfl) (fun _ => rfl) | exact arg_rn (by rfl) (by rfl) | exact arg_junk | exact arg_row_mm (by rfl) (by rfl) (fun _ => rfl)) | refine ⟨?_, ?_⟩)); done) | fail) (rkstr _) (hq := ?_)))) | (guard_target =~ SOp _ _ ⟨_, .box _ _, _, _, _, none⟩ _ _ _; first | (refine n_box rfl (hK := ?_))) | (guard_target =~ SOp _ _ ⟨_, .call ⟨.value (.func 73), _, _⟩, _, _, _, none⟩ _ _ _; first | (refine n_call (f := 73) rfl Try.call73 (h := AEq.pure' (by first | ((repeat' (first | exact trivial | (first | exact arg_lit | exact arg_sl id id | exact arg_nil | exact arg_sl (by simp) id | exact arg_sl (by simp) (fun _ => rfl) | exact arg_row_m (by rfl) (by rfl) (fun _ => rfl) | exact arg_vw_m (by rfl) (by rfl) (fun _ => rfl) | exact arg_rn (by rfl) (by rfl) | exact arg_junk | exact arg_row_mm (by rfl) (by rfl) (fun _ => rfl)) | refine ⟨?_, ?_⟩)); done) | fail) (rflen _ _ _ _ _ _ _ (by first | assumption | omega) (by first | assumption | omega) (by first | assumption | omega)) (hq := ?_))))) | (guard_target =~ dg _ _ _ _ _ _ _; first | (guard_target =~ dg _ _ _ (⟨_, .load _ _, _, _, _, none⟩ :: _) _ _ _; first | (refine dg_v rfl (hk := ?_))) | (guard_target =~ dg _ _ _ (⟨_, .fieldAddr _ _ _, _, _, _, none⟩ :: _) _ _ _; first | (refine dg_v rfl (hk := ?_))) | (guard_target =~ dg _ _ _ (⟨_, .move _, _, _, _, none⟩ :: _) _ _ _; first | (refine dg_v rfl (hk := ?_))) | (guard_target =~ dg _ _ _ (⟨_, .binOp _ _ _ _ _, _, _, _, some _⟩ :: _) _ _ _; first | (refine dg_gtp rfl (hk := ?_)) | (refine dg_gf rfl (hn := rfl) (hk := ?_))) | (guard_target =~ dg _ _ _ (⟨_, .load _ _, _, _, _, some _⟩ :: _) _ _ _; first | (refine dg_gtp rfl (hk := ?_)) | (refine dg_gf rfl (hn := rfl) (hk := ?_))) | (guard_target =~ dg _ _ _ (⟨_, .fieldAddr _ _ _, _, _, _, some _⟩ :: _) _ _ _; first | (refine dg_gtp rfl (hk := ?_)) | (refine dg_gf rfl (hn := rfl) (hk := ?_))) | (guard_target =~ dg _ _ _ (⟨_, .binOp _ _ _ _ _, _, _, _, none⟩ :: _) _ _ _; first | (refine dg_v rfl (hk := ?_))) | (guard_target =~ dg _ _ _ (⟨_, .pick _ _ _, _, _, _, none⟩ :: _) _ _ _; first | (refine dg_v rfl (hk := ?_))) | (guard_target =~ dg _ _ _ (⟨_, .move _, _, _, _, some _⟩ :: _) _ _ _; first | (refine dg_gtp rfl (hk := ?_)) | (refine dg_gf rfl (hn := rfl) (hk := ?_))) | (guard_target =~ dg _ _ _ (⟨_, .indexAddr _ _ _, _, _, _, some _⟩ :: _) _ _ _; first | (refine dg_gtp rfl (hk := ?_)) | (refine dg_gf rfl (hn := rfl) (hk := ?_)) | (refine dg_c (x := _) (h := ro_gt (h := n_index rfl (hK := ro_end ⟨rfl, rfl⟩))) (hk := ?_))) | (guard_target =~ dg _ _ _ (⟨_, .unOp _ _ _, _, _, _, none⟩ :: _) _ _ _; first | (refine dg_v rfl (hk := ?_))) | (guard_target =~ dg _ _ _ (⟨_, .call ⟨.builtin .len, _, _⟩, _, _, _, some _⟩ :: _) _ _ _; first | (refine dg_gtp rfl (hk := ?_)) | (refine dg_gf rfl (hn := rfl) (hk := ?_))) | (guard_target =~ dg _ _ _ (⟨_, .convert _ _ _, _, _, _, some _⟩ :: _) _ _ _; first | (refine dg_gtp rfl (hk := ?_)) | (refine dg_gf rfl (hn := rfl) (hk := ?_))) | (guard_target =~ dg _ _ _ (⟨_, .call ⟨.value (.func 48), _, _⟩, _, _, _, none⟩ :: _) _ _ _; first | (refine dg_c (x := _) (h := ro_s (h := n_call (f := 48) rfl Try.call48 (h := AEq.pure' (by first | ((repeat' (first | exact trivial | (first | exact arg_lit | exact arg_sl id id | exact arg_nil | exact arg_sl (by simp) id | exact arg_sl (by simp) (fun _ => rfl) | exact arg_row_m (by rfl) (by rfl) (fun _ => rfl) | exact arg_vw_m (by rfl) (by rfl) (fun _ => rfl) | exact arg_rn (by rfl) (by rfl) | exact arg_junk | exact arg_row_mm (by rfl) (by rfl) (fun _ => rfl)) | refine ⟨?_, ?_⟩)); done) | fail) (rkhas8 _ _ _ (by first | assumption | omega) (by first | assumption | omega) (by first | assumption | omega)) (hq := ro_end ⟨rfl, rfl⟩)))) (hk := ?_))) | (guard_target =~ dg _ _ _ (⟨_, .call ⟨.builtin .len, _, _⟩, _, _, _, none⟩ :: _) _ _ _; first | (refine dg_v rfl (hk := ?_))) | (guard_target =~ dg _ _ _ (⟨_, .pick _ _ _, _, _, _, some _⟩ :: _) _ _ _; first | (refine dg_gtp rfl (hk := ?_)) | (refine dg_gf rfl (hn := rfl) (hk := ?_))) | (guard_target =~ dg _ _ _ [] _ _ _; first | (refine dg_nil ?_))) | (guard_target =~ (_ ∨ _) ∧ _; first | ((refine end_q [] (by first | exact .inr rfl | exact .inl rfl | fail) (by rfl) (by rw [Try.results47, Lf.resM1]; (try simp (disch := omega) only [Lf.resOne, go_sem, seval, ↓reduceIte, hU]); rfl) (by (try simp (disch := omega) only [go_sem, seval, ↓reduceIte, hU]) <;> rfl) (by (try simp (disch := omega) only [go_sem, seval, ↓reduceIte, hU]) <;> rfl) (ale_1 ?_) ?_) <;> (try (first | exact ale_eq (by with_reducible rfl) | exact ale_full | exact ale_sl (fun _ => rfl) | exact ale_sl (by simp) | exact ale_junk | exact ale_eq rfl | exact stq (by with_reducible rfl) | exact stq (by rfl) | exact stq (by simp (disch := omega) only [go_sem, seval, ↓reduceIte, hU]))))) | (refine hK _ _ ?_; clear hK K)))
  all_goals exact ale_eq rfl
theorem rfnum (f q : Bool) (b : List UInt8) (a : Int) (h0 : 0 ≤ a) (h1 : a ≤ b.length) (hb : b.length ≤ 1000000000) : AEq Try.prog 49 [.sl f q (b.map byteA), i64 a] [] (.tu [i64 (lowN (u4 b a)), bl (hiN (u4 b a))]) [] := by
  have hg := getN_bd (b.drop a.toNat) 4
  have hg1 := hg.1
  have hg2 := hg.2
  refine acall_body Try.func49 rfl Try.ntmps49 (by simp) (fun hsc => ?_); simp only [Lf.enter, Nat.reduceAdd]; clear hsc
  have hU := True.intro
  repeat' (first | (guard_target =~ PWp _ _ _ _ _ _ _; first | (refine pwp_seq_k (fun K hK => ?_)) | (refine pwp_rg_then ?_) | (refine pwp_ret ?_)) | (guard_target =~ rg _ _ _ _ _ _ _; first | (guard_target =~ rg _ _ _ [] _ _ _; first | (refine rg_end ?_)) | (refine rg_a rfl (h := ?_)) | (refine rg_x rfl (hy := rfl) (h := ?_)) | (refine rg_v rfl (h := ?_)) | (refine rg_s rfl ?_)) | (guard_target =~ SOp _ _ _ _ _ _; first | (guard_target =~ SOp _ _ ⟨_, .call ⟨.value (.func 77), _, _⟩, _, _, _, none⟩ _ _ _; first | (refine n_call (f := 77) rfl Try.call77 (h := AEq.pure' (by first | ((repeat' (first | exact trivial | (first | exact arg_lit | exact arg_sl id id | exact arg_nil | exact arg_sl (by simp) id | exact arg_sl (by simp) (fun _ => rfl) | exact arg_row_m (by rfl) (by rfl) (fun _ => rfl) | exact arg_vw_m (by rfl) (by rfl) (fun _ => rfl) | exact arg_rn (by rfl) (by rfl) | exact arg_junk | exact arg_row_mm (by rfl) (by rfl) (fun _ => rfl)) | refine ⟨?_, ?_⟩)); done) | fail) (rlow_is _ (by first | assumption | (simp only [List.length_map, List.length_append, List.length_take, List.length_drop, List.length_cons, List.length_nil]; omega)) (by first | assumption | (simp only [List.length_map, List.length_append, List.length_take, List.length_drop, List.length_cons, List.length_nil]; omega))) (hq := ?_)))) | (guard_target =~ SOp _ _ ⟨_, .slice _ _ _ _ _, _, _, _, none⟩ _ _ _; first | (refine n_slice rfl (hg := (fun _ => (by simp only [go_sem, seval, ↓reduceIte, hU] <;> rfl))) (hK := ?_))) | (guard_target =~ SOp _ _ ⟨_, .call ⟨.value (.func 76), _, _⟩, _, _, _, none⟩ _ _ _; first | (refine n_call (f := 76) rfl Try.call76 (h := AEq.pure' (by first | ((repeat' (first | exact trivial | (first | exact arg_lit | exact arg_sl id id | exact arg_nil | exact arg_sl (by simp) id | exact arg_sl (by simp) (fun _ => rfl) | exact arg_row_m (by rfl) (by rfl) (fun _ => rfl) | exact arg_vw_m (by rfl) (by rfl) (fun _ => rfl) | exact arg_rn (by rfl) (by rfl) | exact arg_junk | exact arg_row_mm (by rfl) (by rfl) (fun _ => rfl)) | refine ⟨?_, ?_⟩)); done) | fail) (rget_is _ _ _ _ (by first | assumption | (simp only [List.length_map, List.length_append, List.length_take, List.length_drop, List.length_cons, List.length_nil]; omega))) (hq := ?_))))) | (guard_target =~ (_ ∨ _) ∧ _; first | ((refine end_d [] (by rw [Try.results49, Lf.res2]) (ale_2 ?_ ?_) ?_) <;> (try (first | exact ale_eq (by with_reducible rfl) | exact ale_full | exact ale_sl (fun _ => rfl) | exact ale_sl (by simp) | exact ale_junk | exact ale_eq rfl | exact stq (by with_reducible rfl) | exact stq (by rfl) | exact stq (by simp (disch := omega) only [go_sem, seval, ↓reduceIte, hU]))))) | (refine hK _ _ ?_; clear hK K))
theorem rfcode (f q : Bool) (b : List UInt8) (a : Int) (h0 : 0 ≤ a) (h1 : a ≤ b.length) (hb : b.length ≤ 1000000000) : AEq Try.prog 50 [.sl f q (b.map byteA), i64 a] [] (i64 (u4 b a)) [] := by
  refine acall_body Try.func50 rfl Try.ntmps50 (by simp) (fun hsc => ?_); simp only [Lf.enter, Nat.reduceAdd]; clear hsc
  have hU := True.intro
  repeat' (first | (guard_target =~ PWp _ _ _ _ _ _ _; first | (refine pwp_seq_k (fun K hK => ?_)) | (refine pwp_rg_then ?_) | (refine pwp_ret ?_)) | (guard_target =~ rg _ _ _ _ _ _ _; first | (guard_target =~ rg _ _ _ [] _ _ _; first | (refine rg_end ?_)) | (refine rg_a rfl (h := ?_)) | (refine rg_x rfl (hy := rfl) (h := ?_)) | (refine rg_v rfl (h := ?_)) | (refine rg_s rfl ?_)) | (guard_target =~ SOp _ _ _ _ _ _; first | (guard_target =~ SOp _ _ ⟨_, .slice _ _ _ _ _, _, _, _, none⟩ _ _ _; first | (refine n_slice rfl (hg := (fun _ => (by simp only [go_sem, seval, ↓reduceIte, hU] <;> rfl))) (hK := ?_))) | (guard_target =~ SOp _ _ ⟨_, .call ⟨.value (.func 76), _, _⟩, _, _, _, none⟩ _ _ _; first | (refine n_call (f := 76) rfl Try.call76 (h := AEq.pure' (by first | ((repeat' (first | exact trivial | (first | exact arg_lit | exact arg_sl id id | exact arg_nil | exact arg_sl (by simp) id | exact arg_sl (by simp) (fun _ => rfl) | exact arg_row_m (by rfl) (by rfl) (fun _ => rfl) | exact arg_vw_m (by rfl) (by rfl) (fun _ => rfl) | exact arg_rn (by rfl) (by rfl) | exact arg_junk | exact arg_row_mm (by rfl) (by rfl) (fun _ => rfl)) | refine ⟨?_, ?_⟩)); done) | fail) (rget_is _ _ _ _ (by simp only [List.length_map, List.length_append, List.length_take, List.length_drop, List.length_cons, List.length_nil]; omega)) (hq := ?_))))) | (guard_target =~ (_ ∨ _) ∧ _; first | ((refine end_d [] (by rw [Try.results50, Lf.res1]) (ale_1 ?_) ?_) <;> (try (first | exact ale_eq (by with_reducible rfl) | exact ale_full | exact ale_sl (fun _ => rfl) | exact ale_sl (by simp) | exact ale_junk | exact ale_eq rfl | exact stq (by with_reducible rfl) | exact stq (by rfl) | exact stq (by simp (disch := omega) only [go_sem, seval, ↓reduceIte, hU]))))) | (refine hK _ _ ?_; clear hK K))
end Go.Proofs.Ytpkangodlfhjgaa
