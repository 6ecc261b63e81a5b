import Derived.Test.YtdalcgfnlbofdaaZ05
import Derived.Test.YtdalcgfnlbofdaaZ02
import Derived.Test.YtdalcgfnlbofdaaZ01
import Derived.Test.YtdalcgfnlbofdaaLc
set_option linter.unusedVariables false
set_option linter.unusedSimpArgs false
namespace Go.Proofs.Ytdalcgfnlbofdaa
open Go Go.Lf Go.Proofs
attribute [local irreducible] Lf.rg Lf.ro Lf.PWp Lf.SOp Lf.ACall Lf.Scoped Lf.dg Lf.dw
set_option maxRecDepth 20000
set_option maxHeartbeats 4000000
theorem bTF {c : Bool} : c = true ∨ c = false := by cases c <;> simp
def kI (t g : Int) : Int := if hasB t g 8 = true then 1 else 0
def ahI (t g : Int) : Int := kI t g + (if hasB t g 32 = true then 5 else 0) + (if t = 5 then 4 else 0)
def u4 (b : List UInt8) (k : Int) : Int := getN (b.drop k.toNat) 4
def u1 (b : List UInt8) (k : Int) : Int := getN (b.drop k.toNat) 1
theorem rfright (w t g s : Int) (r f : Bool) (b : List UInt8) (hb : b.length ≤ 1000000000) : AEq Try.prog 13 [.ag [i64 w, i64 t, i64 g, i64 s, bl r, .sl f false (b.map byteA)]] [] (bl (decide (hdOk ⟨b.length, t, g, s, r⟩))) [] := by
 refine acall_body Try.func13 rfl Try.ntmps13 (by simp) (fun hsc => ?_); simp only [Lf.enter, Nat.reduceAdd]; clear hsc
 have hU := True.intro
 repeat' (first | (guard_target =~ PWp _ _ _ _ _ _ _; first | (refine pwp_seq_k (fun K hK => ?_)) | (refine pwp_rg_then ?_) | (refine pwp_ret ?_)) | (guard_target =~ rg _ _ _ _ _ _ _; first | (guard_target =~ rg _ _ _ (⟨_, .load _ _, _, _, _, some _⟩ :: _) _ _ _; first | (refine rg_gq rfl (h := ?_))) | (guard_target =~ rg _ _ _ (⟨_, .fieldAddr _ _ _, _, _, _, some _⟩ :: _) _ _ _; first | (refine rg_gq rfl (h := ?_))) | (guard_target =~ rg _ _ _ (⟨_, .binOp _ _ _ _ _, _, _, _, some _⟩ :: _) _ _ _; first | (refine rg_gq rfl (h := ?_))) | (guard_target =~ rg _ _ _ (⟨_, .call ⟨.builtin .len, _, _⟩, _, _, _, some _⟩ :: _) _ _ _; first | (refine rg_gq rfl (h := ?_))) | (guard_target =~ rg _ _ _ [] _ _ _; first | (refine rg_end ?_)) | (refine rg_a rfl (h := ?_)) | (refine rg_v rfl (h := ?_)) | (refine rg_s rfl ?_)) | (guard_target =~ SOp _ _ _ _ _ _; first | (guard_target =~ SOp _ _ ⟨_, .box _ _, _, _, _, none⟩ _ _ _; first | (refine n_box rfl (hK := ?_)))) | (guard_target =~ (_ ∨ _) ∧ _; first | ((refine end_d [] (by rw [Try.results13, Lf.res1]) (ale_1 ?_) ?_) <;> (try (first | exact aleT | exact stq (by with_reducible rfl) | exact stq (by rfl) | exact stq (by simp (disch := omega) only [go_sem, seval, ↓reduceIte, hU]))))) | (refine hK _ _ ?_; clear hK K))
 all_goals first | exact ale_bl (by symm; rw [decide_eq_true_eq]; unfold hdOk; dsimp only; omega) | exact ale_bl (by symm; rw [decide_eq_false_iff_not]; unfold hdOk; dsimp only; omega) | exact ale_bl (by rw [Bool.eq_iff_iff]; simp only [Bool.and_eq_true, decide_eq_true_eq]; unfold hdOk; dsimp only; omega)
theorem lenB_cases (t g : Int) (n : Nat) :
    (t = 2 ∧ lenB t g n = decide (n = 5)) ∨ (t = 3 ∧ lenB t g n = decide (n = 4)) ∨ (t = 8 ∧ lenB t g n = decide (n = 4)) ∨ (t = 6 ∧ lenB t g n = decide (n = 8)) ∨ (t = 7 ∧ lenB t g n = decide (8 ≤ n)) ∨
    (t = 4 ∧ hasB 4 g 1 = true ∧ lenB t g n = decide (n = 0)) ∨ (t = 4 ∧ hasB 4 g 1 = false ∧ lenB t g n = decide (n % 6 = 0)) ∨ (¬ t = 2 ∧ ¬ t = 3 ∧ ¬ t = 8 ∧ ¬ t = 6 ∧ ¬ t = 7 ∧ ¬ t = 4 ∧ lenB t g n = true) := by
  by_cases h2 : t = 2
  · subst h2; exact .inl ⟨rfl, rfl⟩
  by_cases h3 : t = 3
  · subst h3; exact .inr (.inl ⟨rfl, rfl⟩)
  by_cases h8 : t = 8
  · subst h8; exact .inr (.inr (.inl ⟨rfl, rfl⟩))
  by_cases h6 : t = 6
  · subst h6; exact .inr (.inr (.inr (.inl ⟨rfl, rfl⟩)))
  by_cases h7 : t = 7
  · subst h7; exact .inr (.inr (.inr (.inr (.inl ⟨rfl, rfl⟩))))
  by_cases h4 : t = 4
  · subst h4
    rcases bTF (c := hasB 4 g 1) with hH | hH
    · exact .inr (.inr (.inr (.inr (.inr (.inl ⟨rfl, hH, (lenB_4 g n).trans (if_pos hH)⟩)))))
    · exact .inr (.inr (.inr (.inr (.inr (.inr (.inl ⟨rfl, hH, (lenB_4 g n).trans (if_neg (by rw [hH]; simp))⟩))))))
  refine .inr (.inr (.inr (.inr (.inr (.inr (.inr ⟨h2, h3, h8, h6, h7, h4, ?_⟩))))))
  unfold lenB
  rw [if_neg h2, if_neg (by omega), if_neg h6, if_neg h7, if_neg h4]
theorem rflen (w t g s : Int) (r f : Bool) (b : List UInt8) (hg0 : 0 ≤ g) (hg1 : g < 256) (hb : b.length ≤ 1000000000) : AEq Try.prog 39 [.ag [i64 w, i64 t, i64 g, i64 s, bl r, .sl f false (b.map byteA)]] [] (bl (lenB t g b.length)) [] := by
 rcases lenB_cases t g b.length with ⟨rfl, e⟩ | ⟨rfl, e⟩ | ⟨rfl, e⟩ | ⟨rfl, e⟩ | ⟨rfl, e⟩ | ⟨rfl, hH, e⟩ | ⟨rfl, hH, e⟩ | ⟨n2, n3, n8, n6, n7, n4, e⟩
 all_goals rw [e]
 all_goals (have hV : (0 : Int) = 0 := rfl)
 all_goals (have hH2 := hV)
 all_goals (try (have hH2 := hH))
 all_goals (refine acall_body Try.func39 rfl Try.ntmps39 (by simp) (fun hsc => ?_); simp only [Lf.enter, Nat.reduceAdd]; clear hsc)
 all_goals (have hU := @hH2)
 all_goals (repeat' (first | (guard_target =~ PWp _ _ _ _ _ _ _; first | (refine pwp_seq_k (fun K hK => ?_)) | (refine pwp_block ?_) | (refine pwp_rg_then ?_) | (refine pwp_ret ?_) | (refine pwp_skip ?_) | ((refine pwp_cond_d (fun hcd => ?_) (fun hcd => ?_)) <;> (try simp only [hcP] at hcd) <;> (try exact cdT))) | (guard_target =~ rg _ _ _ _ _ _ _; first | (guard_target =~ rg _ _ _ [] _ _ _; first | (refine rg_end ?_)) | (refine rg_a rfl (h := ?_)) | (refine rg_v rfl (h := ?_)) | (refine rg_s rfl ?_)) | (guard_target =~ SOp _ _ _ _ _ _; first | (guard_target =~ SOp _ _ ⟨_, .box _ _, _, _, _, none⟩ _ _ _; first | (refine n_box rfl (hK := ?_))) | (guard_target =~ SOp _ _ ⟨_, .call ⟨.value (.func 15), _, _⟩, _, _, _, none⟩ _ _ _; first | (refine n_call (f := 15) rfl Try.call15 (h := AEq.pure' agT (rkhas1 _ _ _ aoT aoT aoT) (hq := ?_))))) | (guard_target =~ (_ ∨ _) ∧ _; first | ((refine end_d [] (by rw [Try.results39, Lf.res1]) (ale_1 ?_) ?_) <;> (try (first | exact aleT | exact stq (by with_reducible rfl) | exact stq (by rfl) | exact stq (by simp (disch := omega) only [go_sem, seval, ↓reduceIte, hU]))))) | (refine hK _ _ ?_; clear hK K)))
 all_goals exact ale_bl (by grind)
theorem ahI_cases (t g : Int) : ∃ c8 c32, hasB t g 8 = c8 ∧ hasB t g 32 = c32 ∧
    ((t = 5 ∧ c8 = true ∧ c32 = false ∧ ahI t g = 5) ∨ (t = 5 ∧ c8 = false ∧ c32 = false ∧ ahI t g = 4) ∨ (¬ t = 5 ∧ c8 = true ∧ c32 = true ∧ ahI t g = 6) ∨ (¬ t = 5 ∧ c8 = false ∧ c32 = true ∧ ahI t g = 5) ∨ (¬ t = 5 ∧ c8 = true ∧ c32 = false ∧ ahI t g = 1) ∨ (¬ t = 5 ∧ c8 = false ∧ c32 = false ∧ ahI t g = 0)) := by
  refine ⟨_, _, rfl, rfl, ?_⟩
  by_cases h5 : t = 5
  · subst h5
    have h32 := hasB_n32 (t := 5) (g := g) (by decide)
    rcases bTF (c := hasB 5 g 8) with h8 | h8
    · exact .inl ⟨rfl, h8, h32, by unfold ahI kI; rw [f_t h8, f_f h32, if_pos rfl]; rfl⟩
    · exact .inr (.inl ⟨rfl, h8, h32, by unfold ahI kI; rw [f_f h8, f_f h32, if_pos rfl]; rfl⟩)
  · rcases bTF (c := hasB t g 32) with h32 | h32
    · rcases bTF (c := hasB t g 8) with h8 | h8
      · exact .inr (.inr (.inl ⟨h5, h8, h32, by unfold ahI kI; rw [f_t h8, f_t h32, if_neg h5]; rfl⟩))
      · exact .inr (.inr (.inr (.inl ⟨h5, h8, h32, by unfold ahI kI; rw [f_f h8, f_t h32, if_neg h5]; rfl⟩)))
    · rcases bTF (c := hasB t g 8) with h8 | h8
      · exact .inr (.inr (.inr (.inr (.inl ⟨h5, h8, h32, by unfold ahI kI; rw [f_t h8, f_f h32, if_neg h5]; rfl⟩))))
      · exact .inr (.inr (.inr (.inr (.inr ⟨h5, h8, h32, by unfold ahI kI; rw [f_f h8, f_f h32, if_neg h5]; rfl⟩))))
theorem rfahead (w t g s : Int) (r f : Bool) (b : List UInt8) (hg0 : 0 ≤ g) (hg1 : g < 256) (hb : b.length ≤ 1000000000) : AEq Try.prog 40 [.ag [i64 w, i64 t, i64 g, i64 s, bl r, .sl f false (b.map byteA)]] [] (i64 (ahI t g)) [] := by
 obtain ⟨c8, c32, h8, h32, hc⟩ := ahI_cases t g
 rcases hc with ⟨h5, rfl, rfl, e⟩ | ⟨h5, rfl, rfl, e⟩ | ⟨h5, rfl, rfl, e⟩ | ⟨h5, rfl, rfl, e⟩ | ⟨h5, rfl, rfl, e⟩ | ⟨h5, rfl, rfl, e⟩
 all_goals rw [e]
 all_goals (refine acall_body Try.func40 rfl Try.ntmps40 (by simp) (fun hsc => ?_); simp only [Lf.enter, Nat.reduceAdd]; clear hsc)
 all_goals (have hU := And.intro @h8 (@h32))
 all_goals (repeat' (first | (guard_target =~ PWp _ _ _ _ _ _ _; first | (refine pwp_seq_k (fun K hK => ?_)) | (refine pwp_rg_then ?_) | (refine pwp_ret ?_) | (refine pwp_skip ?_) | ((refine pwp_cond_d (fun hcd => ?_) (fun hcd => ?_)) <;> (try simp only [hcP] at hcd) <;> (try exact cdT))) | (guard_target =~ rg _ _ _ _ _ _ _; first | (guard_target =~ rg _ _ _ [] _ _ _; first | (refine rg_end ?_)) | (refine rg_a rfl (h := ?_)) | (refine rg_v rfl (h := ?_)) | (refine rg_s rfl ?_)) | (guard_target =~ SOp _ _ _ _ _ _; first | (guard_target =~ SOp _ _ ⟨_, .call ⟨.value (.func 15), _, _⟩, _, _, _, none⟩ _ _ _; first | (refine n_call (f := 15) rfl Try.call15 (h := AEq.pure' agT (rkhas8 _ _ _ aoT aoT aoT) (hq := ?_))) | (refine n_call (f := 15) rfl Try.call15 (h := AEq.pure' agT (rkhas32 _ _ _ aoT aoT aoT) (hq := ?_)))) | (guard_target =~ SOp _ _ ⟨_, .box _ _, _, _, _, none⟩ _ _ _; first | (refine n_box rfl (hK := ?_)))) | (guard_target =~ (_ ∨ _) ∧ _; first | ((refine end_d [] (by rw [Try.results40, Lf.res1]) (ale_1 ?_) ?_) <;> (try (first | exact aleT | exact stq (by with_reducible rfl) | exact stq (by rfl) | exact stq (by simp (disch := omega) only [go_sem, seval, ↓reduceIte, hU]))))) | (refine hK _ _ ?_; clear hK K)))
theorem kI_ah {t g : Int} : 0 ≤ kI t g ∧ kI t g ≤ ahI t g ∧ ahI t g ≤ 10 := by
 unfold ahI kI
 repeat' split
 all_goals omega
theorem lenB_sc {t g : Int} {n : Nat} (h : lenB t g n = false) : scI t = if t = 2 then 1 else 2 := by
 unfold scI
 by_cases h2 : t = 2
 ·rw [if_pos (.inr h2), if_pos h2]
 ·by_cases h0 : t = 0
  ·subst h0; rw [show lenB 0 g n = true from rfl] at h; exact absurd h (by simp)
  ·rw [if_neg (by omega), if_neg h2]
theorem ahI_sc {t g : Int} (h : 0 < ahI t g) : scI t = if t = 0 then 1 else 2 := by
 unfold scI
 by_cases h0 : t = 0
 ·rw [if_pos (.inl h0), if_pos h0]
 ·by_cases h2 : t = 2
  ·subst h2
   exfalso
   unfold ahI kI at h
   rw [f_f (hasB_n8 (by decide) (by decide) (by decide)), f_f (hasB_n32 (by decide)), if_neg (by decide)] at h
   omega
  ·rw [if_neg (by omega), if_neg h0]
theorem getN_first {b : List UInt8} {x : UInt8} (h : b[0]? = some x) : getN b 1 = x.toNat := by
 have := getN_one b 0 x h
 rwa [List.drop_zero] at this
def fauM (t g s : Int) (b : List UInt8) : Int × Int :=
 if strOk t s = false then (2, 1) else if lenB t g b.length = false then (if t = 2 then 1 else 2, 6) else if (b.length : Int) < ahI t g then (if t = 0 then 1 else 2, 6)
 else if hasB t g 8 = true ∧ (b.length : Int) - ahI t g < getN b 1 then (2, 1) else (0, 0)
theorem fauM_cases (t g s : Int) (b : List UInt8) : ∃ st, strI t = st ∧
    (((st = 0 ∧ ¬ s = 0 ∨ st = 1 ∧ s = 0) ∧ lenB t g b.length = lenB t g b.length ∧ hasB t g 8 = hasB t g 8 ∧ fauM t g s b = (2, 1)) ∨
    (((st = 0 ∧ s = 0) ∨ (st = 1 ∧ ¬ s = 0) ∨ (¬ st = 0 ∧ ¬ st = 1)) ∧ ((lenB t g b.length = false ∧ hasB t g 8 = hasB t g 8 ∧ ((t = 2 ∧ fauM t g s b = (1, 6)) ∨ (¬ t = 2 ∧ fauM t g s b = (2, 6)))) ∨
      (lenB t g b.length = true ∧ (((b.length : Int) < ahI t g ∧ hasB t g 8 = hasB t g 8 ∧ ((t = 0 ∧ fauM t g s b = (1, 6)) ∨ (¬ t = 0 ∧ fauM t g s b = (2, 6)))) ∨
        (¬ (b.length : Int) < ahI t g ∧ ((hasB t g 8 = true ∧ 1 ≤ ahI t g ∧ ∃ x, b[0]? = some x ∧ ((((b.length : Int) - ahI t g < x.toNat) ∧ fauM t g s b = (2, 1)) ∨ (¬ ((b.length : Int) - ahI t g < x.toNat) ∧ fauM t g s b = (0, 0)))) ∨
          (hasB t g 8 = false ∧ fauM t g s b = (0, 0))))))))) := by
  refine ⟨_, rfl, ?_⟩
  rcases bTF (c := strOk t s) with h1 | h1
  · right
    have n1 : ¬ strOk t s = false := by rw [h1]; simp
    refine ⟨?_, ?_⟩
    · unfold strOk at h1
      split at h1
      · exact .inl ⟨by assumption, of_decide_eq_true h1⟩
      · split at h1
        · exact .inr (.inl ⟨by assumption, by simpa using h1⟩)
        · exact .inr (.inr ⟨by assumption, by assumption⟩)
    rcases bTF (c := lenB t g b.length) with h2 | h2
    · right
      have n2 : ¬ lenB t g b.length = false := by rw [h2]; simp
      refine ⟨h2, ?_⟩
      by_cases hS : (b.length : Int) < ahI t g
      · left
        refine ⟨hS, rfl, ?_⟩
        by_cases h0 : t = 0
        · exact .inl ⟨h0, by unfold fauM; rw [if_neg n1, if_neg n2, if_pos hS, if_pos h0]⟩
        · exact .inr ⟨h0, by unfold fauM; rw [if_neg n1, if_neg n2, if_pos hS, if_neg h0]⟩
      · right
        refine ⟨hS, ?_⟩
        rcases bTF (c := hasB t g 8) with h8 | h8
        · left
          have hk2 := kI_ah (t := t) (g := g)
          have hk : kI t g = 1 := f_t h8
          have h1a : 1 ≤ ahI t g := by omega
          obtain ⟨x, hx⟩ : ∃ x, b[0]? = some x := ⟨b[0]'(by omega), List.getElem?_eq_getElem (by omega)⟩
          have hgx := getN_first hx
          refine ⟨h8, h1a, x, hx, ?_⟩
          by_cases hP : (b.length : Int) - ahI t g < x.toNat
          · exact .inl ⟨hP, by unfold fauM; rw [if_neg n1, if_neg n2, if_neg hS, if_pos ⟨h8, by rw [hgx]; exact hP⟩]⟩
          · exact .inr ⟨hP, by unfold fauM; rw [if_neg n1, if_neg n2, if_neg hS, if_neg (by rw [hgx]; exact fun h => hP h.2)]⟩
        · right
          exact ⟨h8, by unfold fauM; rw [if_neg n1, if_neg n2, if_neg hS, if_neg (by rw [h8]; simp)]⟩
    · left
      refine ⟨h2, rfl, ?_⟩
      by_cases h0 : t = 2
      · exact .inl ⟨h0, by unfold fauM; rw [if_neg n1, if_pos h2, if_pos h0]⟩
      · exact .inr ⟨h0, by unfold fauM; rw [if_neg n1, if_pos h2, if_neg h0]⟩
  · left
    refine ⟨?_, rfl, rfl, if_pos h1⟩
    unfold strOk at h1
    split at h1
    · exact .inl ⟨by assumption, of_decide_eq_false h1⟩
    · split at h1
      · exact .inr ⟨by assumption, by simpa using h1⟩
      · exact absurd h1 (by simp)
theorem rffault (w t g s : Int) (r f : Bool) (b : List UInt8) (hg0 : 0 ≤ g) (hg1 : g < 256) (hb : b.length ≤ 1000000000) : AEq Try.prog 25 [.ag [i64 w, i64 t, i64 g, i64 s, bl r, .sl f false (b.map byteA)]] [] (.ag [i64 (fauM t g s b).1, i64 (fauM t g s b).2]) [] := by
 have hk := kI_ah (t := t) (g := g)
 obtain ⟨st, q1, hc⟩ := fauM_cases t g s b
 rcases hc with ⟨q2, h2, h8, e⟩ | ⟨q2, ⟨h2, h8, ⟨h0, e⟩ | ⟨h0, e⟩⟩ | ⟨h2, ⟨hS, h8, ⟨h0, e⟩ | ⟨h0, e⟩⟩ | ⟨hS, ⟨h8, h1a, x, hx, ⟨hP, e⟩ | ⟨hP, e⟩⟩ | ⟨h8, e⟩⟩⟩⟩
 all_goals rw [e]
 all_goals (refine acall_body Try.func25 rfl Try.ntmps25 (by simp) (fun hsc => ?_); simp only [Lf.enter, Nat.reduceAdd]; clear hsc)
 all_goals (have hU := And.intro @q1 ( And.intro @h2 (@h8)))
 all_goals (repeat' (first | (guard_target =~ PWp _ _ _ _ _ _ _; first | (refine pwp_seq_k (fun K hK => ?_)) | (refine pwp_rg_then ?_) | (refine pwp_draw mixed (by kernel_rfl) ?_) | (refine pwp_ret ?_) | (refine pwp_skip ?_) | ((refine pwp_cond_d (fun hcd => ?_) (fun hcd => ?_)) <;> (try simp only [hcP] at hcd) <;> (try exact cdT))) | (guard_target =~ rg _ _ _ _ _ _ _; first | (guard_target =~ rg _ _ _ (⟨_, .binOp _ _ _ _ _, _, _, _, some _⟩ :: _) _ _ _; first | (refine rg_gtp rfl (h := ?_)) | (refine rg_gf rfl (hn := rfl) (h := ?_)) | (refine rg_gn rfl (h := ?_)) | (refine rg_gq rfl (h := ?_)) | ((first | refine rg_case (by simp only [go_sem, seval, ↓reduceIte, hU] <;> rfl) (fun hcd => ?_) (fun hcd => ?_) | refine rg_case2 (by simp only [go_sem, seval, ↓reduceIte, hU] <;> rfl) (fun hcd => ?_) (fun hcd => ?_)) <;> (try simp only [hcd]) <;> (try (simp only [Bool.not_eq_true', Bool.not_eq_false'] at hcd; try simp only [hcd])) <;> (refine rg_w (Γ2 := _) (by repeat' (first | exact envw_nil | apply envw_cons | exact opens_t | exact opens_f | exact opens_r)) ?_) <;> (try simp only [hcP] at hcd) <;> (try exact cdT))) | (guard_target =~ rg _ _ _ (⟨_, .load _ _, _, _, _, some _⟩ :: _) _ _ _; first | (refine rg_gtp rfl (h := ?_)) | (refine rg_gf rfl (hn := rfl) (h := ?_)) | (refine rg_gn rfl (h := ?_)) | (refine rg_gq rfl (h := ?_)) | ((first | refine rg_case (by simp only [go_sem, seval, ↓reduceIte, hU] <;> rfl) (fun hcd => ?_) (fun hcd => ?_) | refine rg_case2 (by simp only [go_sem, seval, ↓reduceIte, hU] <;> rfl) (fun hcd => ?_) (fun hcd => ?_)) <;> (try simp only [hcd]) <;> (try (simp only [Bool.not_eq_true', Bool.not_eq_false'] at hcd; try simp only [hcd])) <;> (refine rg_w (Γ2 := _) (by repeat' (first | exact envw_nil | apply envw_cons | exact opens_t | exact opens_f | exact opens_r)) ?_) <;> (try simp only [hcP] at hcd) <;> (try exact cdT))) | (guard_target =~ rg _ _ _ (⟨_, .fieldAddr _ _ _, _, _, _, some _⟩ :: _) _ _ _; first | (refine rg_gtp rfl (h := ?_)) | (refine rg_gf rfl (hn := rfl) (h := ?_)) | (refine rg_gn rfl (h := ?_)) | (refine rg_gq rfl (h := ?_)) | ((first | refine rg_case (by simp only [go_sem, seval, ↓reduceIte, hU] <;> rfl) (fun hcd => ?_) (fun hcd => ?_) | refine rg_case2 (by simp only [go_sem, seval, ↓reduceIte, hU] <;> rfl) (fun hcd => ?_) (fun hcd => ?_)) <;> (try simp only [hcd]) <;> (try (simp only [Bool.not_eq_true', Bool.not_eq_false'] at hcd; try simp only [hcd])) <;> (refine rg_w (Γ2 := _) (by repeat' (first | exact envw_nil | apply envw_cons | exact opens_t | exact opens_f | exact opens_r)) ?_) <;> (try simp only [hcP] at hcd) <;> (try exact cdT))) | (guard_target =~ rg _ _ _ (⟨_, .move _, _, _, _, some _⟩ :: _) _ _ _; first | (refine rg_gtp rfl (h := ?_)) | (refine rg_gf rfl (hn := rfl) (h := ?_)) | (refine rg_gn rfl (h := ?_)) | (refine rg_gq rfl (h := ?_)) | ((first | refine rg_case (by simp only [go_sem, seval, ↓reduceIte, hU] <;> rfl) (fun hcd => ?_) (fun hcd => ?_) | refine rg_case2 (by simp only [go_sem, seval, ↓reduceIte, hU] <;> rfl) (fun hcd => ?_) (fun hcd => ?_)) <;> (try simp only [hcd]) <;> (try (simp only [Bool.not_eq_true', Bool.not_eq_false'] at hcd; try simp only [hcd])) <;> (refine rg_w (Γ2 := _) (by repeat' (first | exact envw_nil | apply envw_cons | exact opens_t | exact opens_f | exact opens_r)) ?_) <;> (try simp only [hcP] at hcd) <;> (try exact cdT))) | (guard_target =~ rg _ _ _ (⟨_, .convert _ _ _, _, _, _, some _⟩ :: _) _ _ _; first | (refine rg_gtp rfl (h := ?_)) | (refine rg_gf rfl (hn := rfl) (h := ?_)) | (refine rg_gn rfl (h := ?_)) | (refine rg_gq rfl (h := ?_)) | ((first | refine rg_case (by simp only [go_sem, seval, ↓reduceIte, hU] <;> rfl) (fun hcd => ?_) (fun hcd => ?_) | refine rg_case2 (by simp only [go_sem, seval, ↓reduceIte, hU] <;> rfl) (fun hcd => ?_) (fun hcd => ?_)) <;> (try simp only [hcd]) <;> (try (simp only [Bool.not_eq_true', Bool.not_eq_false'] at hcd; try simp only [hcd])) <;> (refine rg_w (Γ2 := _) (by repeat' (first | exact envw_nil | apply envw_cons | exact opens_t | exact opens_f | exact opens_r)) ?_) <;> (try simp only [hcP] at hcd) <;> (try exact cdT))) | (guard_target =~ rg _ _ _ (⟨_, .indexAddr _ _ _, _, _, _, some _⟩ :: _) _ _ _; first | (refine rg_gtp rfl (h := ?_)) | (refine rg_gf rfl (hn := rfl) (h := ?_)) | (refine rg_gn rfl (h := ?_)) | (refine rg_gq rfl (h := ?_)) | ((first | refine rg_case (by simp only [go_sem, seval, ↓reduceIte, hU] <;> rfl) (fun hcd => ?_) (fun hcd => ?_) | refine rg_case2 (by simp only [go_sem, seval, ↓reduceIte, hU] <;> rfl) (fun hcd => ?_) (fun hcd => ?_)) <;> (try simp only [hcd]) <;> (try (simp only [Bool.not_eq_true', Bool.not_eq_false'] at hcd; try simp only [hcd])) <;> (refine rg_w (Γ2 := _) (by repeat' (first | exact envw_nil | apply envw_cons | exact opens_t | exact opens_f | exact opens_r)) ?_) <;> (try simp only [hcP] at hcd) <;> (try exact cdT))) | (guard_target =~ rg _ _ _ (⟨_, .pick _ _ _, _, _, _, some _⟩ :: _) _ _ _; first | (refine rg_gtp rfl (h := ?_)) | (refine rg_gf rfl (hn := rfl) (h := ?_)) | (refine rg_gn rfl (h := ?_)) | (refine rg_gq rfl (h := ?_)) | ((first | refine rg_case (by simp only [go_sem, seval, ↓reduceIte, hU] <;> rfl) (fun hcd => ?_) (fun hcd => ?_) | refine rg_case2 (by simp only [go_sem, seval, ↓reduceIte, hU] <;> rfl) (fun hcd => ?_) (fun hcd => ?_)) <;> (try simp only [hcd]) <;> (try (simp only [Bool.not_eq_true', Bool.not_eq_false'] at hcd; try simp only [hcd])) <;> (refine rg_w (Γ2 := _) (by repeat' (first | exact envw_nil | apply envw_cons | exact opens_t | exact opens_f | exact opens_r)) ?_) <;> (try simp only [hcP] at hcd) <;> (try exact cdT))) | (guard_target =~ rg _ _ _ (⟨_, .call ⟨.builtin .len, _, _⟩, _, _, _, some _⟩ :: _) _ _ _; first | (refine rg_gtp rfl (h := ?_)) | (refine rg_gf rfl (hn := rfl) (h := ?_)) | (refine rg_gn rfl (h := ?_)) | (refine rg_gq rfl (h := ?_)) | ((first | refine rg_case (by simp only [go_sem, seval, ↓reduceIte, hU] <;> rfl) (fun hcd => ?_) (fun hcd => ?_) | refine rg_case2 (by simp only [go_sem, seval, ↓reduceIte, hU] <;> rfl) (fun hcd => ?_) (fun hcd => ?_)) <;> (try simp only [hcd]) <;> (try (simp only [Bool.not_eq_true', Bool.not_eq_false'] at hcd; try simp only [hcd])) <;> (refine rg_w (Γ2 := _) (by repeat' (first | exact envw_nil | apply envw_cons | exact opens_t | exact opens_f | exact opens_r)) ?_) <;> (try simp only [hcP] at hcd) <;> (try exact cdT))) | (guard_target =~ rg _ _ _ [] _ _ _; first | (refine rg_end ?_)) | (refine rg_a rfl (h := ?_)) | (refine rg_v rfl (h := ?_)) | (refine rg_s rfl ?_) | (refine rg_n rfl ?_)) | (guard_target =~ SOp _ _ _ _ _ _; first | (guard_target =~ SOp _ _ ⟨_, .build _ _, _, _, _, none⟩ _ _ _; first | (refine n_build rfl (by first | exact bd30 | exact bd44 | fail) (hK := ?_))) | (guard_target =~ SOp _ _ ⟨_, .store _ _ _, _, _, _, none⟩ _ _ _; first | (refine n_store rfl (hK := ?_))) | (guard_target =~ SOp _ _ ⟨_, .alloc _, _, _, _, none⟩ _ _ _; first | (refine n_alloc rfl (by first | exact zv3 | exact zv4 | exact zv5 | exact zv28 | exact zv30 | exact zv44 | fail) (hK := ?_))) | (guard_target =~ SOp _ _ ⟨_, .call ⟨.value (.func 40), _, _⟩, _, _, _, none⟩ _ _ _; first | (refine n_call (f := 40) rfl Try.call40 (h := AEq.pure' agT (rfahead _ _ _ _ _ _ _ aoT aoT aoT) (hq := ?_)))) | (guard_target =~ SOp _ _ ⟨_, .call ⟨.value (.func 38), _, _⟩, _, _, _, none⟩ _ _ _; first | (refine n_call (f := 38) rfl Try.call38 (h := AEq.pure' agT (rkstr _) (hq := ?_)))) | (guard_target =~ SOp _ _ ⟨_, .box _ _, _, _, _, none⟩ _ _ _; first | (refine n_box rfl (hK := ?_))) | (guard_target =~ SOp _ _ ⟨_, .call ⟨.value (.func 39), _, _⟩, _, _, _, none⟩ _ _ _; first | (refine n_call (f := 39) rfl Try.call39 (h := AEq.pure' agT (rflen _ _ _ _ _ _ _ aoT aoT aoT) (hq := ?_))))) | (guard_target =~ dg _ _ _ _ _ _ _; first | (guard_target =~ dg _ _ _ (⟨_, .load _ _, _, _, _, none⟩ :: _) _ _ _; first | (refine dg_v rfl (hk := ?_))) | (guard_target =~ dg _ _ _ (⟨_, .fieldAddr _ _ _, _, _, _, none⟩ :: _) _ _ _; first | (refine dg_v rfl (hk := ?_))) | (guard_target =~ dg _ _ _ (⟨_, .binOp _ _ _ _ _, _, _, _, some _⟩ :: _) _ _ _; first | (refine dg_gtp rfl (hk := ?_)) | (refine dg_gf rfl (hn := rfl) (hk := ?_))) | (guard_target =~ dg _ _ _ (⟨_, .move _, _, _, _, none⟩ :: _) _ _ _; first | (refine dg_v rfl (hk := ?_))) | (guard_target =~ dg _ _ _ (⟨_, .load _ _, _, _, _, some _⟩ :: _) _ _ _; first | (refine dg_gtp rfl (hk := ?_)) | (refine dg_gf rfl (hn := rfl) (hk := ?_))) | (guard_target =~ dg _ _ _ (⟨_, .fieldAddr _ _ _, _, _, _, some _⟩ :: _) _ _ _; first | (refine dg_gtp rfl (hk := ?_)) | (refine dg_gf rfl (hn := rfl) (hk := ?_))) | (guard_target =~ dg _ _ _ (⟨_, .binOp _ _ _ _ _, _, _, _, none⟩ :: _) _ _ _; first | (refine dg_v rfl (hk := ?_))) | (guard_target =~ dg _ _ _ (⟨_, .move _, _, _, _, some _⟩ :: _) _ _ _; first | (refine dg_gtp rfl (hk := ?_)) | (refine dg_gf rfl (hn := rfl) (hk := ?_))) | (guard_target =~ dg _ _ _ (⟨_, .pick _ _ _, _, _, _, none⟩ :: _) _ _ _; first | (refine dg_v rfl (hk := ?_))) | (guard_target =~ dg _ _ _ (⟨_, .call ⟨.value (.func 15), _, _⟩, _, _, _, none⟩ :: _) _ _ _; first | (refine dg_c (x := _) (h := ro_s (h := n_call (f := 15) rfl Try.call15 (h := AEq.pure' agT (rkhas8 _ _ _ aoT aoT aoT) (hq := ro_end ⟨rfl, rfl⟩)))) (hk := ?_))) | (guard_target =~ dg _ _ _ (⟨_, .convert _ _ _, _, _, _, some _⟩ :: _) _ _ _; first | (refine dg_gtp rfl (hk := ?_)) | (refine dg_gf rfl (hn := rfl) (hk := ?_))) | (guard_target =~ dg _ _ _ (⟨_, .indexAddr _ _ _, _, _, _, some _⟩ :: _) _ _ _; first | (refine dg_gtp rfl (hk := ?_)) | (refine dg_gf rfl (hn := rfl) (hk := ?_)) | (refine dg_c (x := _) (h := ro_gt (h := n_index rfl (hK := ro_end ⟨rfl, rfl⟩))) (hk := ?_))) | (guard_target =~ dg _ _ _ (⟨_, .pick _ _ _, _, _, _, some _⟩ :: _) _ _ _; first | (refine dg_gtp rfl (hk := ?_)) | (refine dg_gf rfl (hn := rfl) (hk := ?_))) | (guard_target =~ dg _ _ _ (⟨_, .call ⟨.builtin .len, _, _⟩, _, _, _, some _⟩ :: _) _ _ _; first | (refine dg_gtp rfl (hk := ?_)) | (refine dg_gf rfl (hn := rfl) (hk := ?_))) | (guard_target =~ dg _ _ _ (⟨_, .unOp _ _ _, _, _, _, none⟩ :: _) _ _ _; first | (refine dg_v rfl (hk := ?_))) | (guard_target =~ dg _ _ _ (⟨_, .call ⟨.builtin .len, _, _⟩, _, _, _, none⟩ :: _) _ _ _; first | (refine dg_v rfl (hk := ?_))) | (guard_target =~ dg _ _ _ [] _ _ _; first | (refine dg_nil ?_))) | (guard_target =~ (_ ∨ _) ∧ _; first | ((refine end_q [] (by first | exact .inr rfl | exact .inl rfl | fail) (by rfl) (by rw [Try.results25, Lf.resM1]; (try simp (disch := omega) only [Lf.resOne, go_sem, seval, ↓reduceIte, hU]); rfl) sT sT (ale_1 ?_) ?_) <;> (try (first | exact aleT | exact stq (by with_reducible rfl) | exact stq (by rfl) | exact stq (by simp (disch := omega) only [go_sem, seval, ↓reduceIte, hU]))))) | (refine hK _ _ ?_; clear hK K)))
 all_goals exact ale_eq rfl
theorem rfnum (f q : Bool) (b : List UInt8) (a : Int) (h0 : 0 ≤ a) (h1 : a ≤ b.length) (hb : b.length ≤ 1000000000) : AEq Try.prog 26 [.sl f q (b.map byteA), i64 a] [] (.tu [i64 (lowN (u4 b a)), bl (hiN (u4 b a))]) [] := by
 have hg := getN_bd (b.drop a.toNat) 4
 have hg1 := hg.1
 have hg2 := hg.2
 refine acall_body Try.func26 rfl Try.ntmps26 (by simp) (fun hsc => ?_); simp only [Lf.enter, Nat.reduceAdd]; clear hsc
 have hU := True.intro
 repeat' (first | (guard_target =~ PWp _ _ _ _ _ _ _; first | (refine pwp_seq_k (fun K hK => ?_)) | (refine pwp_rg_then ?_) | (refine pwp_ret ?_)) | (guard_target =~ rg _ _ _ _ _ _ _; first | (guard_target =~ rg _ _ _ [] _ _ _; first | (refine rg_end ?_)) | (refine rg_a rfl (h := ?_)) | (refine rg_x rfl (hy := rfl) (h := ?_)) | (refine rg_v rfl (h := ?_)) | (refine rg_s rfl ?_)) | (guard_target =~ SOp _ _ _ _ _ _; first | (guard_target =~ SOp _ _ ⟨_, .slice _ _ _ _ _, _, _, _, none⟩ _ _ _; first | (refine n_slice rfl (hg := (fun _ => (by simp only [go_sem, seval, ↓reduceIte, hU] <;> rfl))) (hK := ?_))) | (guard_target =~ SOp _ _ ⟨_, .call ⟨.value (.func 42), _, _⟩, _, _, _, none⟩ _ _ _; first | (refine n_call (f := 42) rfl Try.call42 (h := AEq.pure' agT (rlow_is _ (by first | assumption | (simp only [List.length_map, List.length_append, List.length_take, List.length_drop, List.length_cons, List.length_nil]; omega)) (by first | assumption | (simp only [List.length_map, List.length_append, List.length_take, List.length_drop, List.length_cons, List.length_nil]; omega))) (hq := ?_)))) | (guard_target =~ SOp _ _ ⟨_, .call ⟨.value (.func 41), _, _⟩, _, _, _, none⟩ _ _ _; first | (refine n_call (f := 41) rfl Try.call41 (h := AEq.pure' agT (rget_is _ _ _ _ (by first | assumption | (simp only [List.length_map, List.length_append, List.length_take, List.length_drop, List.length_cons, List.length_nil]; omega))) (hq := ?_))))) | (guard_target =~ (_ ∨ _) ∧ _; first | ((refine end_d [] (by rw [Try.results26, Lf.res2]) (ale_2 ?_ ?_) ?_) <;> (try (first | exact aleT | exact stq (by with_reducible rfl) | exact stq (by rfl) | exact stq (by simp (disch := omega) only [go_sem, seval, ↓reduceIte, hU]))))) | (refine hK _ _ ?_; clear hK K))
theorem rfcode (f q : Bool) (b : List UInt8) (a : Int) (h0 : 0 ≤ a) (h1 : a ≤ b.length) (hb : b.length ≤ 1000000000) : AEq Try.prog 27 [.sl f q (b.map byteA), i64 a] [] (i64 (u4 b a)) [] := by
 refine acall_body Try.func27 rfl Try.ntmps27 (by simp) (fun hsc => ?_); simp only [Lf.enter, Nat.reduceAdd]; clear hsc
 have hU := True.intro
 repeat' (first | (guard_target =~ PWp _ _ _ _ _ _ _; first | (refine pwp_seq_k (fun K hK => ?_)) | (refine pwp_rg_then ?_) | (refine pwp_ret ?_)) | (guard_target =~ rg _ _ _ _ _ _ _; first | (guard_target =~ rg _ _ _ [] _ _ _; first | (refine rg_end ?_)) | (refine rg_a rfl (h := ?_)) | (refine rg_x rfl (hy := rfl) (h := ?_)) | (refine rg_v rfl (h := ?_)) | (refine rg_s rfl ?_)) | (guard_target =~ SOp _ _ _ _ _ _; first | (guard_target =~ SOp _ _ ⟨_, .slice _ _ _ _ _, _, _, _, none⟩ _ _ _; first | (refine n_slice rfl (hg := (fun _ => (by simp only [go_sem, seval, ↓reduceIte, hU] <;> rfl))) (hK := ?_))) | (guard_target =~ SOp _ _ ⟨_, .call ⟨.value (.func 41), _, _⟩, _, _, _, none⟩ _ _ _; first | (refine n_call (f := 41) rfl Try.call41 (h := AEq.pure' agT (rget_is _ _ _ _ (by simp only [List.length_map, List.length_append, List.length_take, List.length_drop, List.length_cons, List.length_nil]; omega)) (hq := ?_))))) | (guard_target =~ (_ ∨ _) ∧ _; first | ((refine end_d [] (by rw [Try.results27, Lf.res1]) (ale_1 ?_) ?_) <;> (try (first | exact aleT | exact stq (by with_reducible rfl) | exact stq (by rfl) | exact stq (by simp (disch := omega) only [go_sem, seval, ↓reduceIte, hU]))))) | (refine hK _ _ ?_; clear hK K))
end Go.Proofs.Ytdalcgfnlbofdaa

set_option linter.unusedVariables false
set_option linter.unusedSimpArgs false
namespace Go.Proofs.Ytdalcgfnlbofdaa
open Go Go.Lf Go.Proofs
attribute [local irreducible] Lf.rg Lf.ro Lf.PWp Lf.SOp Lf.ACall Lf.Scoped Lf.dg Lf.dw
set_option maxRecDepth 20000
set_option maxHeartbeats 4000000
def rfD (t g : Int) (b : List UInt8) (k : Nat) : List UInt8 := if hasB t g 8 = true then (b.take ((b.length : Int) - getN b 1).toNat).drop k else b.drop k
def kN (t g : Int) : Nat := if hasB t g 8 = true then 1 else 0
def rfM (t g s : Int) (b : List UInt8) : Fm :=
 if t = 3 then ⟨3, g, s, -1, true, [], true, [], 0, 0, false, 0, 0, u4 b 0, 0⟩
 else if t = 4 then ⟨4, g, s, -1, true, [], false, parL b, 0, 0, false, 0, 0, 0, 0⟩
 else if t = 8 then ⟨8, g, s, -1, true, [], true, [], 0, 0, false, 0, 0, 0, lowN (u4 b 0)⟩
 else if t = 7 then ⟨7, g, s, -1, false, b.drop 8, true, [], 0, 0, false, 0, lowN (u4 b 0), u4 b 4, 0⟩
 else if t = 5 then ⟨5, g, s, padI 5 g b, false, rfD 5 g b (kN 5 g + 4), true, [], 0, 0, false, lowN (u4 b (kN 5 g)), 0, 0, 0⟩
 else if t = 2 ∨ hasB t g 32 = true then ⟨t, g, s, padI t g b, false, rfD t g b (kN t g + 5), true, [], u1 b ((kN t g : Int) + 4), lowN (u4 b (kN t g)), hiN (u4 b (kN t g)), 0, 0, 0, 0⟩
 else ⟨t, g, s, padI t g b, false, rfD t g b (kN t g), true, [], 0, 0, false, 0, 0, 0, 0⟩
theorem fau_ok {t g s : Int} {b : List UInt8} (h : fauM t g s b = (0, 0)) : lenB t g b.length = true ∧ ¬ (b.length : Int) < ahI t g ∧ (hasB t g 8 = true → getN b 1 ≤ (b.length : Int) - ahI t g) := by
 unfold fauM at h
 split at h
 ·exact absurd h (by decide)
 ·split at h
  ·split at h <;> exact absurd h (by decide)
  ·rename_i h2
   split at h
   ·split at h <;> exact absurd h (by decide)
   ·rename_i h3
    split at h
    ·exact absurd h (by decide)
    ·rename_i h4
     refine ⟨by cases e : lenB t g b.length; exact absurd e h2; rfl, h3, fun h8 => ?_⟩
     apply Decidable.byContradiction
     intro hn
     exact h4 ⟨h8, by omega⟩
theorem u1_at {b : List UInt8} {k : Nat} {y : UInt8} (h : b[k]? = some y) : ((y.toNat : Nat) : Int) = u1 b k := by
 unfold u1
 rw [show ((k : Nat) : Int).toNat = k from Int.toNat_natCast k, getN_one b k y h]
theorem b_at {b : List UInt8} {k : Nat} (h : k < b.length) : ∃ y, b[k]? = some y := ⟨b[k], List.getElem?_eq_getElem h⟩
theorem rfM_cases {t g s : Int} {b : List UInt8} (h : fauM t g s b = (0, 0)) :
    (t = 3 ∧ hasB t g 8 = false ∧ hasB t g 32 = false ∧ (0 : Int) = 0 ∧ (0 : Int) = 0 ∧ (0 : Int) = 0 ∧ b.length = 4 ∧ rfM t g s b = ⟨3, g, s, -1, true, [], true, [], 0, 0, false, 0, 0, u4 b 0, 0⟩) ∨
    (t = 4 ∧ hasB t g 8 = false ∧ hasB t g 32 = false ∧ (0 : Int) = 0 ∧ (0 : Int) = 0 ∧ (0 : Int) = 0 ∧ True ∧ rfM t g s b = ⟨4, g, s, -1, true, [], false, parL b, 0, 0, false, 0, 0, 0, 0⟩) ∨
    (t = 8 ∧ hasB t g 8 = false ∧ hasB t g 32 = false ∧ (0 : Int) = 0 ∧ (0 : Int) = 0 ∧ (0 : Int) = 0 ∧ b.length = 4 ∧ rfM t g s b = ⟨8, g, s, -1, true, [], true, [], 0, 0, false, 0, 0, 0, lowN (u4 b 0)⟩) ∨
    (∃ (_ : t = 7), hasB t g 8 = false ∧ hasB t g 32 = false ∧ (0 : Int) = 0 ∧ (0 : Int) = 0 ∧ (0 : Int) = 0 ∧ 8 ≤ b.length ∧ rfM t g s b = ⟨7, g, s, -1, false, b.drop 8, true, [], 0, 0, false, 0, lowN (u4 b 0), u4 b 4, 0⟩) ∨
    (∃ x : UInt8, ∃ (_ : t = 5), hasB t g 8 = true ∧ hasB t g 32 = false ∧ ((x.toNat : Nat) : Int) = getN b 1 ∧ (0 : Int) = 0 ∧ (0 : Int) = 0 ∧ b[0]? = some x ∧ (getN b 1 ≤ (b.length : Int) - 5 ∧ 0 ≤ getN b 1) ∧ 5 ≤ b.length ∧ rfM t g s b = ⟨5, g, s, getN b 1, false, (b.take ((b.length : Int) - getN b 1).toNat).drop 5, true, [], 0, 0, false, lowN (u4 b 1), 0, 0, 0⟩) ∨
    (∃ (_ : t = 5), hasB t g 8 = false ∧ hasB t g 32 = false ∧ (0 : Int) = 0 ∧ (0 : Int) = 0 ∧ (0 : Int) = 0 ∧ 4 ≤ b.length ∧ rfM t g s b = ⟨5, g, s, -1, false, b.drop 4, true, [], 0, 0, false, lowN (u4 b 0), 0, 0, 0⟩) ∨
    (∃ y : UInt8, ∃ (_ : t = 2), hasB t g 8 = false ∧ hasB t g 32 = false ∧ (0 : Int) = 0 ∧ ((y.toNat : Nat) : Int) = u1 b 4 ∧ (0 : Int) = 0 ∧ b[4]? = some y ∧ (0 ≤ u1 b 4 ∧ u1 b 4 < 4294967296) ∧ 5 ≤ b.length ∧ rfM t g s b = ⟨2, g, s, -1, false, b.drop 5, true, [], u1 b 4, lowN (u4 b 0), hiN (u4 b 0), 0, 0, 0, 0⟩) ∨
    (∃ x : UInt8, ∃ y : UInt8, ∃ (_ : ¬ t = 2 ∧ ¬ t = 3 ∧ ¬ t = 4 ∧ ¬ t = 5 ∧ ¬ t = 7 ∧ ¬ t = 8), hasB t g 8 = true ∧ hasB t g 32 = true ∧ ((x.toNat : Nat) : Int) = getN b 1 ∧ ((y.toNat : Nat) : Int) = u1 b 5 ∧ (0 : Int) = 0 ∧ b[0]? = some x ∧ (getN b 1 ≤ (b.length : Int) - 6 ∧ 0 ≤ getN b 1) ∧ b[5]? = some y ∧ (0 ≤ u1 b 5 ∧ u1 b 5 < 4294967296) ∧ 6 ≤ b.length ∧ rfM t g s b = ⟨t, g, s, getN b 1, false, (b.take ((b.length : Int) - getN b 1).toNat).drop 6, true, [], u1 b 5, lowN (u4 b 1), hiN (u4 b 1), 0, 0, 0, 0⟩) ∨
    (∃ y : UInt8, ∃ (_ : ¬ t = 2 ∧ ¬ t = 3 ∧ ¬ t = 4 ∧ ¬ t = 5 ∧ ¬ t = 7 ∧ ¬ t = 8), hasB t g 8 = false ∧ hasB t g 32 = true ∧ (0 : Int) = 0 ∧ ((y.toNat : Nat) : Int) = u1 b 4 ∧ (0 : Int) = 0 ∧ b[4]? = some y ∧ (0 ≤ u1 b 4 ∧ u1 b 4 < 4294967296) ∧ 5 ≤ b.length ∧ rfM t g s b = ⟨t, g, s, -1, false, b.drop 5, true, [], u1 b 4, lowN (u4 b 0), hiN (u4 b 0), 0, 0, 0, 0⟩) ∨
    (∃ x : UInt8, ∃ (_ : ¬ t = 2 ∧ ¬ t = 3 ∧ ¬ t = 4 ∧ ¬ t = 5 ∧ ¬ t = 7 ∧ ¬ t = 8), hasB t g 8 = true ∧ hasB t g 32 = false ∧ ((x.toNat : Nat) : Int) = getN b 1 ∧ (0 : Int) = 0 ∧ (0 : Int) = 0 ∧ b[0]? = some x ∧ (getN b 1 ≤ (b.length : Int) - 1 ∧ 0 ≤ getN b 1) ∧ 1 ≤ b.length ∧ rfM t g s b = ⟨t, g, s, getN b 1, false, (b.take ((b.length : Int) - getN b 1).toNat).drop 1, true, [], 0, 0, false, 0, 0, 0, 0⟩) ∨
    (∃ (_ : ¬ t = 2 ∧ ¬ t = 3 ∧ ¬ t = 4 ∧ ¬ t = 5 ∧ ¬ t = 7 ∧ ¬ t = 8), hasB t g 8 = false ∧ hasB t g 32 = false ∧ (0 : Int) = 0 ∧ (0 : Int) = 0 ∧ (0 : Int) = 0 ∧ 0 ≤ b.length ∧ rfM t g s b = ⟨t, g, s, -1, false, b, true, [], 0, 0, false, 0, 0, 0, 0⟩) := by
  obtain ⟨hL, hA, hP⟩ := fau_ok h
  have hgb := getN_bd b 1
  by_cases c3 : t = 3
  · subst c3
    have h8 := hasB_n8 (t := 3) (g := g) (by decide) (by decide) (by decide)
    have h32 := hasB_n32 (t := 3) (g := g) (by decide)
    exact .inl ⟨rfl, h8, h32, rfl, rfl, rfl, of_decide_eq_true (show decide (b.length = 4) = true from hL), rfl⟩
  by_cases c4 : t = 4
  · subst c4
    have h8 := hasB_n8 (t := 4) (g := g) (by decide) (by decide) (by decide)
    have h32 := hasB_n32 (t := 4) (g := g) (by decide)
    exact .inr (.inl ⟨rfl, h8, h32, rfl, rfl, rfl, trivial, rfl⟩)
  by_cases c8 : t = 8
  · subst c8
    have h8 := hasB_n8 (t := 8) (g := g) (by decide) (by decide) (by decide)
    have h32 := hasB_n32 (t := 8) (g := g) (by decide)
    exact .inr (.inr (.inl ⟨rfl, h8, h32, rfl, rfl, rfl, of_decide_eq_true (show decide (b.length = 4) = true from hL), rfl⟩))
  by_cases c7 : t = 7
  · subst c7
    have h8 := hasB_n8 (t := 7) (g := g) (by decide) (by decide) (by decide)
    have h32 := hasB_n32 (t := 7) (g := g) (by decide)
    have hl := of_decide_eq_true (show decide (8 ≤ b.length) = true from hL)
    have e : rfM 7 g s b = ⟨7, g, s, -1, false, b.drop 8, true, [], 0, 0, false, 0, lowN (u4 b 0), u4 b 4, 0⟩ := rfl
    exact .inr (.inr (.inr (.inl ⟨rfl, h8, h32, rfl, rfl, rfl, by omega, e⟩)))
  by_cases c5 : t = 5
  · subst c5
    have h32 := hasB_n32 (t := 5) (g := g) (by decide)
    rcases bTF (c := hasB 5 g 8) with h8 | h8
    · have hk : kN 5 g = 1 := f_t h8
      have ha : ahI 5 g = 5 := by unfold ahI kI; rw [f_t h8, f_f h32, if_pos rfl]; rfl
      have hp : padI 5 g b = getN b 1 := f_t h8
      have hd : rfD 5 g b (kN 5 g + 4) = (b.take ((b.length : Int) - getN b 1).toNat).drop 5 := by rw [hk]; exact f_t h8
      have hp2 := hP h8
      have e : rfM 5 g s b = ⟨5, g, s, getN b 1, false, (b.take ((b.length : Int) - getN b 1).toNat).drop 5, true, [], 0, 0, false, lowN (u4 b 1), 0, 0, 0⟩ := by unfold rfM; rw [if_neg (by decide), if_neg (by decide), if_neg (by decide), if_neg (by decide), if_pos rfl, hp, hd, hk]; rfl
      obtain ⟨x, hx⟩ := b_at (b := b) (k := 0) (by omega)
      have hgx : ((x.toNat : Nat) : Int) = getN b 1 := (getN_first hx).symm
      exact .inr (.inr (.inr (.inr (.inl ⟨x, rfl, h8, h32, hgx, rfl, rfl, hx, ⟨by omega, by omega⟩, by omega, e⟩))))
    · have hk : kN 5 g = 0 := f_f h8
      have ha : ahI 5 g = 4 := by unfold ahI kI; rw [f_f h8, f_f h32, if_pos rfl]; rfl
      have hp : padI 5 g b = -1 := f_f h8
      have hd : rfD 5 g b (kN 5 g + 4) = b.drop 4 := by rw [hk]; exact f_f h8
      have e : rfM 5 g s b = ⟨5, g, s, -1, false, b.drop 4, true, [], 0, 0, false, lowN (u4 b 0), 0, 0, 0⟩ := by unfold rfM; rw [if_neg (by decide), if_neg (by decide), if_neg (by decide), if_neg (by decide), if_pos rfl, hp, hd, hk]; rfl
      exact .inr (.inr (.inr (.inr (.inr (.inl ⟨rfl, h8, h32, rfl, rfl, rfl, by omega, e⟩)))))
  by_cases c2 : t = 2
  · subst c2
    have h8 := hasB_n8 (t := 2) (g := g) (by decide) (by decide) (by decide)
    have h32 := hasB_n32 (t := 2) (g := g) (by decide)
    have hl := of_decide_eq_true (show decide (b.length = 5) = true from hL)
    have hk : kN 2 g = 0 := f_f h8
    have hp : padI 2 g b = -1 := f_f h8
    have hd : rfD 2 g b (kN 2 g + 5) = b.drop 5 := by rw [hk]; exact f_f h8
    have e : rfM 2 g s b = ⟨2, g, s, -1, false, b.drop 5, true, [], u1 b 4, lowN (u4 b 0), hiN (u4 b 0), 0, 0, 0, 0⟩ := by unfold rfM; rw [if_neg (by decide), if_neg (by decide), if_neg (by decide), if_neg (by decide), if_neg (by decide), if_pos (.inl rfl), hp, hd, hk]; rfl
    obtain ⟨y, hy⟩ := b_at (b := b) (k := 4) (by omega)
    have hgy := u1_at hy
    exact .inr (.inr (.inr (.inr (.inr (.inr (.inl ⟨y, rfl, h8, h32, rfl, hgy, rfl, hy, getN_bd _ 1, by omega, e⟩))))))
  have c3' := c3
  have c8t := c8
  rcases bTF (c := hasB t g 32) with h32 | h32
  · rcases bTF (c := hasB t g 8) with h8 | h8
    · have hk : kN t g = 1 := f_t h8
      have ha : ahI t g = 6 := by unfold ahI kI; rw [f_t h8, f_t h32, if_neg c5]; rfl
      have hp : padI t g b = getN b 1 := f_t h8
      have hd : rfD t g b (kN t g + 5) = (b.take ((b.length : Int) - getN b 1).toNat).drop 6 := by rw [hk]; exact f_t h8
      have hp2 := hP h8
      have e : rfM t g s b = ⟨t, g, s, getN b 1, false, (b.take ((b.length : Int) - getN b 1).toNat).drop 6, true, [], u1 b 5, lowN (u4 b 1), hiN (u4 b 1), 0, 0, 0, 0⟩ := by unfold rfM; rw [if_neg c3, if_neg c4, if_neg c8t, if_neg c7, if_neg c5, if_pos (.inr h32), hp, hd, hk]; rfl
      obtain ⟨x, hx⟩ := b_at (b := b) (k := 0) (by omega)
      have hgx : ((x.toNat : Nat) : Int) = getN b 1 := (getN_first hx).symm
      obtain ⟨y, hy⟩ := b_at (b := b) (k := 5) (by omega)
      have hgy := u1_at hy
      exact .inr (.inr (.inr (.inr (.inr (.inr (.inr (.inl ⟨x, y, ⟨c2, c3, c4, c5, c7, c8t⟩, h8, h32, hgx, hgy, rfl, hx, ⟨by omega, by omega⟩, hy, getN_bd _ 1, by omega, e⟩)))))))
    · have hk : kN t g = 0 := f_f h8
      have ha : ahI t g = 5 := by unfold ahI kI; rw [f_f h8, f_t h32, if_neg c5]; rfl
      have hp : padI t g b = -1 := f_f h8
      have hd : rfD t g b (kN t g + 5) = b.drop 5 := by rw [hk]; exact f_f h8
      have e : rfM t g s b = ⟨t, g, s, -1, false, b.drop 5, true, [], u1 b 4, lowN (u4 b 0), hiN (u4 b 0), 0, 0, 0, 0⟩ := by unfold rfM; rw [if_neg c3, if_neg c4, if_neg c8t, if_neg c7, if_neg c5, if_pos (.inr h32), hp, hd, hk]; rfl
      obtain ⟨y, hy⟩ := b_at (b := b) (k := 4) (by omega)
      have hgy := u1_at hy
      exact .inr (.inr (.inr (.inr (.inr (.inr (.inr (.inr (.inl ⟨y, ⟨c2, c3, c4, c5, c7, c8t⟩, h8, h32, rfl, hgy, rfl, hy, getN_bd _ 1, by omega, e⟩))))))))
  · rcases bTF (c := hasB t g 8) with h8 | h8
    · have hk : kN t g = 1 := f_t h8
      have ha : ahI t g = 1 := by unfold ahI kI; rw [f_t h8, f_f h32, if_neg c5]; rfl
      have hp : padI t g b = getN b 1 := f_t h8
      have hd : rfD t g b (kN t g) = (b.take ((b.length : Int) - getN b 1).toNat).drop 1 := by rw [hk]; exact f_t h8
      have hp2 := hP h8
      have e : rfM t g s b = ⟨t, g, s, getN b 1, false, (b.take ((b.length : Int) - getN b 1).toNat).drop 1, true, [], 0, 0, false, 0, 0, 0, 0⟩ := by unfold rfM; rw [if_neg c3, if_neg c4, if_neg c8t, if_neg c7, if_neg c5, if_neg (by rw [h32]; simpa using c2), hp, hd]
      obtain ⟨x, hx⟩ := b_at (b := b) (k := 0) (by omega)
      have hgx : ((x.toNat : Nat) : Int) = getN b 1 := (getN_first hx).symm
      exact .inr (.inr (.inr (.inr (.inr (.inr (.inr (.inr (.inr (.inl ⟨x, ⟨c2, c3, c4, c5, c7, c8t⟩, h8, h32, hgx, rfl, rfl, hx, ⟨by omega, by omega⟩, by omega, e⟩)))))))))
    · have hk : kN t g = 0 := f_f h8
      have ha : ahI t g = 0 := by unfold ahI kI; rw [f_f h8, f_f h32, if_neg c5]; rfl
      have hp : padI t g b = -1 := f_f h8
      have hd : rfD t g b (kN t g) = b := by rw [hk]; exact (f_f h8).trans (List.drop_zero)
      have e : rfM t g s b = ⟨t, g, s, -1, false, b, true, [], 0, 0, false, 0, 0, 0, 0⟩ := by unfold rfM; rw [if_neg c3, if_neg c4, if_neg c8t, if_neg c7, if_neg c5, if_neg (by rw [h32]; simpa using c2), hp, hd]
      exact .inr (.inr (.inr (.inr (.inr (.inr (.inr (.inr (.inr (.inr (⟨⟨c2, c3, c4, c5, c7, c8t⟩, h8, h32, rfl, rfl, rfl, by omega, e⟩))))))))))
set_option maxRecDepth 20000 in
set_option maxHeartbeats 40000000 in
theorem rfp_fault (w t g s : Int) (r f : Bool) (b : List UInt8) (hg0 : 0 ≤ g) (hg1 : g < 256) (hb : b.length ≤ 1000000000) (hW : ¬ (fauM t g s b).1 = 0) : AEq Try.prog 14 [.ag [i64 w, i64 t, i64 g, i64 s, bl r, .sl f false (b.map byteA)]] [] (.tu [.ag (fmA fm0), .ag [i64 (fauM t g s b).1, i64 (fauM t g s b).2]]) [] := by
 refine acall_body Try.func14 rfl Try.ntmps14 (by simp) (fun hsc => ?_); simp only [Lf.enter, Nat.reduceAdd]; clear hsc
 have hU := True.intro
 repeat' (first | (guard_target =~ PWp _ _ _ _ _ _ _; first | (refine pwp_draw_ord (id := 3) [0, 2, 1, 3] [2, 3] mixed (by kernel_rfl) (by kernel_rfl) ?_) | (refine pwp_seq_k (fun K hK => ?_)) | (refine pwp_rg_then ?_) | (refine pwp_ret ?_) | ((refine pwp_cond_d (fun hcd => ?_) (fun hcd => ?_)) <;> (try simp only [hcP] at hcd) <;> (try exact cdT))) | (guard_target =~ rg _ _ _ _ _ _ _; first | (guard_target =~ rg _ _ _ [] _ _ _; first | (refine rg_end ?_)) | (refine rg_v rfl (h := ?_)) | (refine rg_s rfl ?_) | (refine rg_n rfl ?_)) | (guard_target =~ SOp _ _ _ _ _ _; first | (guard_target =~ SOp _ _ ⟨_, .store _ _ _, _, _, _, none⟩ _ _ _; first | (refine n_store rfl (hK := ?_))) | (guard_target =~ SOp _ _ ⟨_, .alloc _, _, _, _, none⟩ _ _ _; first | (refine n_alloc rfl (by first | exact zv3 | exact zv4 | exact zv5 | exact zv28 | exact zv30 | exact zv40 | exact zv42 | exact zv44 | exact zv75 | fail) (hK := ?_))) | (guard_target =~ SOp _ _ ⟨_, .call ⟨.value (.func 25), _, _⟩, _, _, _, none⟩ _ _ _; first | (refine n_call (f := 25) rfl Try.call25 (h := AEq.pure' agT (rffault _ _ _ _ _ _ _ (by assumption) (by assumption) (by assumption)) (hq := ?_)))) | (guard_target =~ SOp _ _ ⟨_, .box _ _, _, _, _, none⟩ _ _ _; first | (refine n_box rfl (hK := ?_)))) | (guard_target =~ dw _ _ _ _ _ _ _ _ _ _; first | (guard_target =~ dw _ _ _ _ _ (0 :: _) _ _ _ _; first | (refine dw_p rfl rfl (h := (fun τ => ro_s (h := n_build rfl (by first | exact bd30 | exact bd42 | exact bd44 | exact bd75 | fail) (hK := ro_end ⟨rfl, rfl⟩)))) (hk := ?_))) | (guard_target =~ dw _ _ _ _ _ (1 :: _) _ _ _ _; first | (refine dw_m rfl rfl (h := ro_v rfl (h := ro_end ⟨rfl, rfl⟩)) (h2 := allS_one (ro_v rfl (by first | (simp (disch := omega) only [go_sem, seval, ↓reduceIte, hU]; done) | rfl) (ro_end ⟨rfl, rfl⟩))) (hk := ?_))) | ((first | guard_target =~ dw _ _ _ _ _ (2 :: _) _ _ _ _ | guard_target =~ dw _ _ _ _ _ (3 :: _) _ _ _ _ | guard_target =~ dw _ _ _ _ _ (8 :: _) _ _ _ _); first | (refine dw_wn rfl rfl (h := ro_n (h := n_store rfl (hK := ro_end ⟨rfl, rfl⟩))) (hk := ?_))) | ((first | guard_target =~ dw _ _ _ _ _ (0 :: _) _ _ _ _ | guard_target =~ dw _ _ _ _ _ (7 :: _) _ _ _ _); first | (refine dw_m rfl rfl (h := ro_v rfl (h := ro_end ⟨rfl, rfl⟩)) (h2 := allS_one (ro_v rfl (by first | (simp (disch := omega) only [go_sem, seval, ↓reduceIte, hU]; done) | rfl) (ro_end ⟨rfl, rfl⟩))) (hk := ?_))) | ((first | guard_target =~ dw _ _ _ _ _ (2 :: _) _ _ _ _ | guard_target =~ dw _ _ _ _ _ (3 :: _) _ _ _ _ | guard_target =~ dw _ _ _ _ _ (4 :: _) _ _ _ _); first | (refine dw_m rfl rfl (h := ro_v rfl (h := ro_end ⟨rfl, rfl⟩)) (h2 := allS_one (ro_v rfl (by first | (simp (disch := omega) only [go_sem, seval, ↓reduceIte, hU]; done) | rfl) (ro_end ⟨rfl, rfl⟩))) (hk := ?_))) | (guard_target =~ dw _ _ _ _ _ [] _ _ _ _; first | (refine dw_nil ?_))) | (guard_target =~ (_ ∨ _) ∧ _; first | ((refine end_q [] (by first | exact .inr rfl | exact .inl rfl | fail) (by rfl) (by rw [Try.results14]; exact Lf.resM2 (by (try simp (disch := omega) only [Lf.resOne, go_sem, seval, ↓reduceIte, hU]); rfl) (by (try simp (disch := omega) only [Lf.resOne, go_sem, seval, ↓reduceIte, hU]); rfl)) sT sT (ale_2 ?_ ?_) ?_) <;> (try (first | exact aleT | exact stq (by with_reducible rfl) | exact stq (by rfl) | exact stq (by simp (disch := omega) only [go_sem, seval, ↓reduceIte, hU]))))) | (refine hK _ _ ?_; clear hK K))
 all_goals exact ale_eq rfl
set_option maxRecDepth 20000 in
set_option maxHeartbeats 40000000 in
theorem rfp_ok (w t g s : Int) (r f : Bool) (b : List UInt8) (hg0 : 0 ≤ g) (hg1 : g < 256) (hb : b.length ≤ 1000000000) (hW : fauM t g s b = (0, 0)) : AEq Try.prog 14 [.ag [i64 w, i64 t, i64 g, i64 s, bl r, .sl f false (b.map byteA)]] [] (.tu [.ag (fmA (rfM t g s b)), .ag [i64 0, i64 0]]) [] := by
 have hgb := getN_bd b 1
 rcases rfM_cases hW with ⟨rfl, hx8, hx32, hgx, hgy, hne, hln, e⟩ | ⟨rfl, hx8, hx32, hgx, hgy, hne, hln, e⟩ | ⟨rfl, hx8, hx32, hgx, hgy, hne, hln, e⟩ | ⟨rfl, hx8, hx32, hgx, hgy, hne, hln, e⟩ | ⟨x, rfl, hx8, hx32, hgx, hgy, hne, hx, ⟨hpb, hpb0⟩, hln, e⟩ | ⟨rfl, hx8, hx32, hgx, hgy, hne, hln, e⟩ | ⟨y, rfl, hx8, hx32, hgx, hgy, hne, hy, ⟨hu0, hu1⟩, hln, e⟩ | ⟨x, y, ⟨m2, m3, m4, m5, m7, m8⟩, hx8, hx32, hgx, hgy, hne, hx, ⟨hpb, hpb0⟩, hy, ⟨hu0, hu1⟩, hln, e⟩ | ⟨y, ⟨m2, m3, m4, m5, m7, m8⟩, hx8, hx32, hgx, hgy, hne, hy, ⟨hu0, hu1⟩, hln, e⟩ | ⟨x, ⟨m2, m3, m4, m5, m7, m8⟩, hx8, hx32, hgx, hgy, hne, hx, ⟨hpb, hpb0⟩, hln, e⟩ | ⟨⟨m2, m3, m4, m5, m7, m8⟩, hx8, hx32, hgx, hgy, hne, hln, e⟩
 all_goals rw [e]
 all_goals (refine acall_body Try.func14 rfl Try.ntmps14 (by simp) (fun hsc => ?_); simp only [Lf.enter, Nat.reduceAdd]; clear hsc)
 all_goals (have hU := And.intro @hW ( And.intro @hx8 ( And.intro @hx32 ( And.intro @hgx (@hgy)))))
 all_goals (repeat' (first | (guard_target =~ PWp _ _ _ _ _ _ _; first | (refine pwp_draw_ord (id := 39) [0, 1, 2, 3, 4, 5, 6, 7, 8] [6, 8] mixed (by kernel_rfl) (by kernel_rfl) ?_) | (refine pwp_seq_k (fun K hK => ?_)) | (refine pwp_block ?_) | (refine pwp_rg_then ?_) | (refine pwp_rg ?_) | (refine pwp_ret ?_) | (refine pwp_skip ?_) | ((refine pwp_cond_d (fun hcd => ?_) (fun hcd => ?_)) <;> (try simp only [hcP] at hcd) <;> (try exact cdT))) | (guard_target =~ rg _ _ _ _ _ _ _; first | (guard_target =~ rg _ _ _ (⟨_, .fieldAddr _ _ _, _, _, _, some _⟩ :: _) _ _ _; first | (refine rg_gtp rfl (h := ?_)) | (refine rg_gf rfl (hn := rfl) (h := ?_)) | (refine rg_gq rfl (h := ?_)) | (refine rg_gt rfl (h := ?_)) | ((first | refine rg_case (by simp only [go_sem, seval, ↓reduceIte, hU] <;> rfl) (fun hcd => ?_) (fun hcd => ?_) | refine rg_case2 (by simp only [go_sem, seval, ↓reduceIte, hU] <;> rfl) (fun hcd => ?_) (fun hcd => ?_)) <;> (try simp only [hcd]) <;> (try (simp only [Bool.not_eq_true', Bool.not_eq_false'] at hcd; try simp only [hcd])) <;> (refine rg_w (Γ2 := _) (by repeat' (first | exact envw_nil | apply envw_cons | exact opens_t | exact opens_f | exact opens_r)) ?_) <;> (try simp only [hcP] at hcd) <;> (try exact cdT))) | (guard_target =~ rg _ _ _ (⟨_, .load _ _, _, _, _, some _⟩ :: _) _ _ _; first | (refine rg_gtp rfl (h := ?_)) | (refine rg_gf rfl (hn := rfl) (h := ?_)) | (refine rg_gq rfl (h := ?_)) | (refine rg_gt rfl (h := ?_)) | ((first | refine rg_case (by simp only [go_sem, seval, ↓reduceIte, hU] <;> rfl) (fun hcd => ?_) (fun hcd => ?_) | refine rg_case2 (by simp only [go_sem, seval, ↓reduceIte, hU] <;> rfl) (fun hcd => ?_) (fun hcd => ?_)) <;> (try simp only [hcd]) <;> (try (simp only [Bool.not_eq_true', Bool.not_eq_false'] at hcd; try simp only [hcd])) <;> (refine rg_w (Γ2 := _) (by repeat' (first | exact envw_nil | apply envw_cons | exact opens_t | exact opens_f | exact opens_r)) ?_) <;> (try simp only [hcP] at hcd) <;> (try exact cdT))) | (guard_target =~ rg _ _ _ (⟨_, .call ⟨.value (.func 15), _, _⟩, _, _, _, some _⟩ :: _) _ _ _; first | (refine rg_gtp rfl (h := ?_)) | (refine rg_gf rfl (hn := rfl) (h := ?_)) | (refine rg_gq rfl (h := ?_)) | (refine rg_gt rfl (h := ?_)) | ((first | refine rg_case (by simp only [go_sem, seval, ↓reduceIte, hU] <;> rfl) (fun hcd => ?_) (fun hcd => ?_) | refine rg_case2 (by simp only [go_sem, seval, ↓reduceIte, hU] <;> rfl) (fun hcd => ?_) (fun hcd => ?_)) <;> (try simp only [hcd]) <;> (try (simp only [Bool.not_eq_true', Bool.not_eq_false'] at hcd; try simp only [hcd])) <;> (refine rg_w (Γ2 := _) (by repeat' (first | exact envw_nil | apply envw_cons | exact opens_t | exact opens_f | exact opens_r)) ?_) <;> (try simp only [hcP] at hcd) <;> (try exact cdT))) | (guard_target =~ rg _ _ _ [] _ _ _; first | (refine rg_end ?_)) | (refine rg_a rfl (h := ?_)) | (refine rg_x rfl (hy := rfl) (h := ?_)) | (refine rg_v rfl (h := ?_)) | (refine rg_s rfl ?_) | (refine rg_n rfl ?_)) | (guard_target =~ SOp _ _ _ _ _ _; first | (guard_target =~ SOp _ _ ⟨_, .store _ _ _, _, _, _, none⟩ _ _ _; first | (refine n_store rfl (hK := ?_))) | (guard_target =~ SOp _ _ ⟨_, .build _ _, _, _, _, none⟩ _ _ _; first | (refine n_build rfl (by first | exact bd30 | exact bd42 | exact bd44 | exact bd75 | fail) (hK := ?_))) | (guard_target =~ SOp _ _ ⟨_, .call ⟨.value (.func 26), _, _⟩, _, _, _, none⟩ _ _ _; first | (refine n_call (f := 26) rfl Try.call26 (h := AEq.pure' agT (rfnum _ _ _ _ aoT aoT aoT) (hq := ?_)))) | (guard_target =~ SOp _ _ ⟨_, .alloc _, _, _, _, none⟩ _ _ _; first | (refine n_alloc rfl (by first | exact zv3 | exact zv4 | exact zv5 | exact zv28 | exact zv30 | exact zv40 | exact zv42 | exact zv44 | exact zv75 | fail) (hK := ?_))) | (guard_target =~ SOp _ _ ⟨_, .indexAddr _ _ _, _, _, _, none⟩ _ _ _; first | (refine n_index rfl (hK := ?_))) | (guard_target =~ SOp _ _ ⟨_, .call ⟨.value (.func 27), _, _⟩, _, _, _, none⟩ _ _ _; first | (refine n_call (f := 27) rfl Try.call27 (h := AEq.pure' agT (rfcode _ _ _ _ aoT aoT aoT) (hq := ?_)))) | (guard_target =~ SOp _ _ ⟨_, .call ⟨.value (.func 15), _, _⟩, _, _, _, none⟩ _ _ _; first | (refine n_call (f := 15) rfl Try.call15 (h := AEq.pure' agT (rkhas8 _ _ _ aoT aoT aoT) (hq := ?_))) | (refine n_call (f := 15) rfl Try.call15 (h := AEq.pure' agT (rkhas32 _ _ _ aoT aoT aoT) (hq := ?_)))) | (guard_target =~ SOp _ _ ⟨_, .call ⟨.value (.func 25), _, _⟩, _, _, _, none⟩ _ _ _; first | (refine n_call (f := 25) rfl Try.call25 (h := AEq.pure' agT (rffault _ _ _ _ _ _ _ aoT aoT aoT) (hq := ?_)))) | (guard_target =~ SOp _ _ ⟨_, .call ⟨.value (.func 28), _, _⟩, _, _, _, none⟩ _ _ _; first | (refine n_call (f := 28) rfl Try.call28 (h := AEq.pure' agT (rset_parse _ _ aoT) (hq := ?_)))) | (guard_target =~ SOp _ _ ⟨_, .call ⟨.value (.func 15), _, _⟩, _, _, _, some _⟩ _ _ _; first | (refine n_call (f := 15) rfl Try.call15 (h := AEq.pure' agT (rkhas8 _ _ _ aoT aoT aoT) (hq := ?_))) | (refine n_call (f := 15) rfl Try.call15 (h := AEq.pure' agT (rkhas32 _ _ _ aoT aoT aoT) (hq := ?_)))) | (guard_target =~ SOp _ _ ⟨_, .box _ _, _, _, _, none⟩ _ _ _; first | (refine n_box rfl (hK := ?_)))) | (guard_target =~ dw _ _ _ _ _ _ _ _ _ _; first | (guard_target =~ dw _ _ _ _ _ (1 :: _) _ _ _ _; first | (refine dw_p rfl rfl (h := (fun τ => ro_v rfl (h := ro_end ⟨rfl, rfl⟩))) (hk := ?_)) | (refine dw_c rfl rfl (h := ro_v rfl (h := ro_end ⟨rfl, rfl⟩)) (hk := ?_))) | ((first | guard_target =~ dw _ _ _ _ _ (2 :: _) _ _ _ _ | guard_target =~ dw _ _ _ _ _ (3 :: _) _ _ _ _ | guard_target =~ dw _ _ _ _ _ (8 :: _) _ _ _ _); first | (refine dw_wn rfl rfl (h := ro_n (h := n_store rfl (hK := ro_end ⟨rfl, rfl⟩))) (hk := ?_))) | ((first | guard_target =~ dw _ _ _ _ _ (0 :: _) _ _ _ _ | guard_target =~ dw _ _ _ _ _ (7 :: _) _ _ _ _); first | (refine dw_p rfl rfl (h := (fun τ => ro_v rfl (h := ro_end ⟨rfl, rfl⟩))) (hk := ?_)) | (refine dw_c rfl rfl (h := ro_v rfl (h := ro_end ⟨rfl, rfl⟩)) (hk := ?_))) | ((first | guard_target =~ dw _ _ _ _ _ (2 :: _) _ _ _ _ | guard_target =~ dw _ _ _ _ _ (3 :: _) _ _ _ _ | guard_target =~ dw _ _ _ _ _ (4 :: _) _ _ _ _); first | (refine dw_p rfl rfl (h := (fun τ => ro_v rfl (h := ro_end ⟨rfl, rfl⟩))) (hk := ?_)) | (refine dw_c rfl rfl (h := ro_v rfl (h := ro_end ⟨rfl, rfl⟩)) (hk := ?_))) | (guard_target =~ dw _ _ _ _ _ (5 :: _) _ _ _ _; first | (refine dw_p rfl rfl (h := (fun τ => ro_s (h := n_slice rfl (hg := (fun _ => (by simp only [go_sem, seval, ↓reduceIte, hU] <;> rfl))) (hK := ro_end ⟨rfl, rfl⟩)))) (hk := ?_))) | (guard_target =~ dw _ _ _ _ _ (6 :: _) _ _ _ _; first | (refine dw_w rfl rfl (h := ro_s (h := n_append_new rfl (he := by first | exact eo3 | exact eo4 | exact eo5 | exact eo28 | exact eo30 | exact eo40 | exact eo42 | exact eo44 | exact eo75 | fail) (hne := by first | exact .inl rfl | exact .inr (by assumption) | exact .inr (by simp; done) | fail) (hK := ro_end ⟨rfl, rfl⟩))) (hk := ?_))) | (guard_target =~ dw _ _ _ _ _ [] _ _ _ _; first | (refine dw_nil ?_))) | (guard_target =~ (_ ∨ _) ∧ _; first | ((refine end_q [] (by first | exact .inr rfl | exact .inl rfl | fail) (by rfl) (by rw [Try.results14]; exact Lf.resM2 (by (try simp (disch := omega) only [Lf.resOne, go_sem, seval, ↓reduceIte, hU]); rfl) (by (try simp (disch := omega) only [Lf.resOne, go_sem, seval, ↓reduceIte, hU]); rfl)) sT sT (ale_2 ?_ ?_) ?_) <;> (try (first | exact aleT | exact stq (by with_reducible rfl) | exact stq (by rfl) | exact stq (by simp (disch := omega) only [go_sem, seval, ↓reduceIte, hU]))))) | (refine hK _ _ ?_; clear hK K)))
 all_goals exact ale_eq rfl
end Go.Proofs.Ytdalcgfnlbofdaa

set_option linter.unusedVariables false
set_option linter.unusedSimpArgs false
namespace Go.Proofs.Ytdalcgfnlbofdaa
open Go Go.Lf Go.Proofs
attribute [local irreducible] Lf.rg Lf.ro Lf.PWp Lf.SOp Lf.ACall Lf.Scoped Lf.dg Lf.dw
set_option maxRecDepth 20000
set_option maxHeartbeats 4000000
structure Gm where
 (t g s p : Int) (d : List UInt8) (st : List (Int × Int)) (wt pa : Int) (al : Bool) (pr la co sp : Int)
deriving DecidableEq
end Go.Proofs.Ytdalcgfnlbofdaa

