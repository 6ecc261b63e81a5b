import Derived.Test.YtpkangodlfhjgaaF41
import Derived.Test.YtpkangodlfhjgaaH03
import Derived.Test.YtpkangodlfhjgaaM02
import Derived.Test.YtpkangodlfhjgaaLc
set_option linter.unusedVariables false
set_option linter.unusedSimpArgs false
namespace Go.Proofs.Ytpkangodlfhjgaa
open Go Go.Lf Go.Proofs
attribute [local irreducible] Lf.rg Lf.ro Lf.PWp Lf.SOp Lf.ACall Lf.Scoped Lf.dg Lf.dw
set_option maxRecDepth 20000
set_option maxHeartbeats 4000000
def rfD (t g : Int) (b : List UInt8) (k : Nat) : List UInt8 := if hasB t g 8 = true then (b.take ((b.length : Int) - getN b 1).toNat).drop k else b.drop k
def kN (t g : Int) : Nat := if hasB t g 8 = true then 1 else 0
def rfM (t g s : Int) (b : List UInt8) : Fm :=
  if t = 3 then ⟨3, g, s, -1, true, [], true, [], 0, 0, false, 0, 0, u4 b 0, 0⟩
  else if t = 4 then ⟨4, g, s, -1, true, [], false, parL b, 0, 0, false, 0, 0, 0, 0⟩
  else if t = 8 then ⟨8, g, s, -1, true, [], true, [], 0, 0, false, 0, 0, 0, lowN (u4 b 0)⟩
  else if t = 7 then ⟨7, g, s, -1, false, b.drop 8, true, [], 0, 0, false, 0, lowN (u4 b 0), u4 b 4, 0⟩
  else if t = 5 then ⟨5, g, s, padI 5 g b, false, rfD 5 g b (kN 5 g + 4), true, [], 0, 0, false, lowN (u4 b (kN 5 g)), 0, 0, 0⟩
  else if t = 2 ∨ hasB t g 32 = true then ⟨t, g, s, padI t g b, false, rfD t g b (kN t g + 5), true, [], u1 b ((kN t g : Int) + 4), lowN (u4 b (kN t g)), hiN (u4 b (kN t g)), 0, 0, 0, 0⟩
  else ⟨t, g, s, padI t g b, false, rfD t g b (kN t g), true, [], 0, 0, false, 0, 0, 0, 0⟩
theorem fau_ok {t g s : Int} {b : List UInt8} (h : fauM t g s b = (0, 0)) : lenB t g b.length = true ∧ ¬ (b.length : Int) < ahI t g ∧ (hasB t g 8 = true → getN b 1 ≤ (b.length : Int) - ahI t g) := by
  unfold fauM at h
  split at h
  · exact absurd h (by decide)
  · split at h
    · split at h <;> exact absurd h (by decide)
    · rename_i h2
      split at h
      · split at h <;> exact absurd h (by decide)
      · rename_i h3
        split at h
        · exact absurd h (by decide)
        · rename_i h4
          refine ⟨by cases e : lenB t g b.length; exact absurd e h2; rfl, h3, fun h8 => ?_⟩
          apply Decidable.byContradiction
          intro hn
          exact h4 ⟨h8, by omega⟩
theorem u1_at {b : List UInt8} {k : Nat} {y : UInt8} (h : b[k]? = some y) : ((y.toNat : Nat) : Int) = u1 b k := by
  unfold u1
  rw [show ((k : Nat) : Int).toNat = k from Int.toNat_natCast k, getN_one b k y h]
theorem b_at {b : List UInt8} {k : Nat} (h : k < b.length) : ∃ y, b[k]? = some y := ⟨b[k], List.getElem?_eq_getElem h⟩
theorem rfM_cases {t g s : Int} {b : List UInt8} (h : fauM t g s b = (0, 0)) :
    (t = 3 ∧ hasB t g 8 = false ∧ hasB t g 32 = false ∧ (0 : Int) = 0 ∧ (0 : Int) = 0 ∧ (0 : Int) = 0 ∧ b.length = 4 ∧ rfM t g s b = ⟨3, g, s, -1, true, [], true, [], 0, 0, false, 0, 0, u4 b 0, 0⟩) ∨
    (t = 4 ∧ hasB t g 8 = false ∧ hasB t g 32 = false ∧ (0 : Int) = 0 ∧ (0 : Int) = 0 ∧ (0 : Int) = 0 ∧ True ∧ rfM t g s b = ⟨4, g, s, -1, true, [], false, parL b, 0, 0, false, 0, 0, 0, 0⟩) ∨
    (t = 8 ∧ hasB t g 8 = false ∧ hasB t g 32 = false ∧ (0 : Int) = 0 ∧ (0 : Int) = 0 ∧ (0 : Int) = 0 ∧ b.length = 4 ∧ rfM t g s b = ⟨8, g, s, -1, true, [], true, [], 0, 0, false, 0, 0, 0, lowN (u4 b 0)⟩) ∨
    (∃ (_ : t = 7), hasB t g 8 = false ∧ hasB t g 32 = false ∧ (0 : Int) = 0 ∧ (0 : Int) = 0 ∧ (0 : Int) = 0 ∧ 8 ≤ b.length ∧ rfM t g s b = ⟨7, g, s, -1, false, b.drop 8, true, [], 0, 0, false, 0, lowN (u4 b 0), u4 b 4, 0⟩) ∨
    (∃ x : UInt8, ∃ (_ : t = 5), hasB t g 8 = true ∧ hasB t g 32 = false ∧ ((x.toNat : Nat) : Int) = getN b 1 ∧ (0 : Int) = 0 ∧ (0 : Int) = 0 ∧ b[0]? = some x ∧ (getN b 1 ≤ (b.length : Int) - 5 ∧ 0 ≤ getN b 1) ∧ 5 ≤ b.length ∧ rfM t g s b = ⟨5, g, s, getN b 1, false, (b.take ((b.length : Int) - getN b 1).toNat).drop 5, true, [], 0, 0, false, lowN (u4 b 1), 0, 0, 0⟩) ∨
    (∃ (_ : t = 5), hasB t g 8 = false ∧ hasB t g 32 = false ∧ (0 : Int) = 0 ∧ (0 : Int) = 0 ∧ (0 : Int) = 0 ∧ 4 ≤ b.length ∧ rfM t g s b = ⟨5, g, s, -1, false, b.drop 4, true, [], 0, 0, false, lowN (u4 b 0), 0, 0, 0⟩) ∨
    (∃ y : UInt8, ∃ (_ : t = 2), hasB t g 8 = false ∧ hasB t g 32 = false ∧ (0 : Int) = 0 ∧ ((y.toNat : Nat) : Int) = u1 b 4 ∧ (0 : Int) = 0 ∧ b[4]? = some y ∧ (0 ≤ u1 b 4 ∧ u1 b 4 < 4294967296) ∧ 5 ≤ b.length ∧ rfM t g s b = ⟨2, g, s, -1, false, b.drop 5, true, [], u1 b 4, lowN (u4 b 0), hiN (u4 b 0), 0, 0, 0, 0⟩) ∨
    (∃ x : UInt8, ∃ y : UInt8, ∃ (_ : ¬ t = 2 ∧ ¬ t = 3 ∧ ¬ t = 4 ∧ ¬ t = 5 ∧ ¬ t = 7 ∧ ¬ t = 8), hasB t g 8 = true ∧ hasB t g 32 = true ∧ ((x.toNat : Nat) : Int) = getN b 1 ∧ ((y.toNat : Nat) : Int) = u1 b 5 ∧ (0 : Int) = 0 ∧ b[0]? = some x ∧ (getN b 1 ≤ (b.length : Int) - 6 ∧ 0 ≤ getN b 1) ∧ b[5]? = some y ∧ (0 ≤ u1 b 5 ∧ u1 b 5 < 4294967296) ∧ 6 ≤ b.length ∧ rfM t g s b = ⟨t, g, s, getN b 1, false, (b.take ((b.length : Int) - getN b 1).toNat).drop 6, true, [], u1 b 5, lowN (u4 b 1), hiN (u4 b 1), 0, 0, 0, 0⟩) ∨
    (∃ y : UInt8, ∃ (_ : ¬ t = 2 ∧ ¬ t = 3 ∧ ¬ t = 4 ∧ ¬ t = 5 ∧ ¬ t = 7 ∧ ¬ t = 8), hasB t g 8 = false ∧ hasB t g 32 = true ∧ (0 : Int) = 0 ∧ ((y.toNat : Nat) : Int) = u1 b 4 ∧ (0 : Int) = 0 ∧ b[4]? = some y ∧ (0 ≤ u1 b 4 ∧ u1 b 4 < 4294967296) ∧ 5 ≤ b.length ∧ rfM t g s b = ⟨t, g, s, -1, false, b.drop 5, true, [], u1 b 4, lowN (u4 b 0), hiN (u4 b 0), 0, 0, 0, 0⟩) ∨
    (∃ x : UInt8, ∃ (_ : ¬ t = 2 ∧ ¬ t = 3 ∧ ¬ t = 4 ∧ ¬ t = 5 ∧ ¬ t = 7 ∧ ¬ t = 8), hasB t g 8 = true ∧ hasB t g 32 = false ∧ ((x.toNat : Nat) : Int) = getN b 1 ∧ (0 : Int) = 0 ∧ (0 : Int) = 0 ∧ b[0]? = some x ∧ (getN b 1 ≤ (b.length : Int) - 1 ∧ 0 ≤ getN b 1) ∧ 1 ≤ b.length ∧ rfM t g s b = ⟨t, g, s, getN b 1, false, (b.take ((b.length : Int) - getN b 1).toNat).drop 1, true, [], 0, 0, false, 0, 0, 0, 0⟩) ∨
    (∃ (_ : ¬ t = 2 ∧ ¬ t = 3 ∧ ¬ t = 4 ∧ ¬ t = 5 ∧ ¬ t = 7 ∧ ¬ t = 8), hasB t g 8 = false ∧ hasB t g 32 = false ∧ (0 : Int) = 0 ∧ (0 : Int) = 0 ∧ (0 : Int) = 0 ∧ 0 ≤ b.length ∧ rfM t g s b = ⟨t, g, s, -1, false, b, true, [], 0, 0, false, 0, 0, 0, 0⟩) := by
  obtain ⟨hL, hA, hP⟩ := fau_ok h
  have hgb := getN_bd b 1
  by_cases c3 : t = 3
  · subst c3
    have h8 := hasB_n8 (t := 3) (g := g) (by decide) (by decide) (by decide)
    have h32 := hasB_n32 (t := 3) (g := g) (by decide)
    exact .inl ⟨rfl, h8, h32, rfl, rfl, rfl, of_decide_eq_true (show decide (b.length = 4) = true from hL), rfl⟩
  by_cases c4 : t = 4
  · subst c4
    have h8 := hasB_n8 (t := 4) (g := g) (by decide) (by decide) (by decide)
    have h32 := hasB_n32 (t := 4) (g := g) (by decide)
    exact .inr (.inl ⟨rfl, h8, h32, rfl, rfl, rfl, trivial, rfl⟩)
  by_cases c8 : t = 8
  · subst c8
    have h8 := hasB_n8 (t := 8) (g := g) (by decide) (by decide) (by decide)
    have h32 := hasB_n32 (t := 8) (g := g) (by decide)
    exact .inr (.inr (.inl ⟨rfl, h8, h32, rfl, rfl, rfl, of_decide_eq_true (show decide (b.length = 4) = true from hL), rfl⟩))
  by_cases c7 : t = 7
  · subst c7
    have h8 := hasB_n8 (t := 7) (g := g) (by decide) (by decide) (by decide)
    have h32 := hasB_n32 (t := 7) (g := g) (by decide)
    have hl := of_decide_eq_true (show decide (8 ≤ b.length) = true from hL)
    have e : rfM 7 g s b = ⟨7, g, s, -1, false, b.drop 8, true, [], 0, 0, false, 0, lowN (u4 b 0), u4 b 4, 0⟩ := rfl
    exact .inr (.inr (.inr (.inl ⟨rfl, h8, h32, rfl, rfl, rfl, by omega, e⟩)))
  by_cases c5 : t = 5
  · subst c5
    have h32 := hasB_n32 (t := 5) (g := g) (by decide)
    rcases bTF (c := hasB 5 g 8) with h8 | h8
    · have hk : kN 5 g = 1 := f_t h8
      have ha : ahI 5 g = 5 := by unfold ahI kI; rw [f_t h8, f_f h32, if_pos rfl]; rfl
      have hp : padI 5 g b = getN b 1 := f_t h8
      have hd : rfD 5 g b (kN 5 g + 4) = (b.take ((b.length : Int) - getN b 1).toNat).drop 5 := by rw [hk]; exact f_t h8
      have hp2 := hP h8
      have e : rfM 5 g s b = ⟨5, g, s, getN b 1, false, (b.take ((b.length : Int) - getN b 1).toNat).drop 5, true, [], 0, 0, false, lowN (u4 b 1), 0, 0, 0⟩ := by unfold rfM; rw [if_neg (by decide), if_neg (by decide), if_neg (by decide), if_neg (by decide), if_pos rfl, hp, hd, hk]; rfl
      obtain ⟨x, hx⟩ := b_at (b := b) (k := 0) (by omega)
      have hgx : ((x.toNat : Nat) : Int) = getN b 1 := (getN_first hx).symm
      exact .inr (.inr (.inr (.inr (.inl ⟨x, rfl, h8, h32, hgx, rfl, rfl, hx, ⟨by omega, by omega⟩, by omega, e⟩))))
    · have hk : kN 5 g = 0 := f_f h8
      have ha : ahI 5 g = 4 := by unfold ahI kI; rw [f_f h8, f_f h32, if_pos rfl]; rfl
      have hp : padI 5 g b = -1 := f_f h8
      have hd : rfD 5 g b (kN 5 g + 4) = b.drop 4 := by rw [hk]; exact f_f h8
      have e : rfM 5 g s b = ⟨5, g, s, -1, false, b.drop 4, true, [], 0, 0, false, lowN (u4 b 0), 0, 0, 0⟩ := by unfold rfM; rw [if_neg (by decide), if_neg (by decide), if_neg (by decide), if_neg (by decide), if_pos rfl, hp, hd, hk]; rfl
      exact .inr (.inr (.inr (.inr (.inr (.inl ⟨rfl, h8, h32, rfl, rfl, rfl, by omega, e⟩)))))
  by_cases c2 : t = 2
  · subst c2
    have h8 := hasB_n8 (t := 2) (g := g) (by decide) (by decide) (by decide)
    have h32 := hasB_n32 (t := 2) (g := g) (by decide)
    have hl := of_decide_eq_true (show decide (b.length = 5) = true from hL)
    have hk : kN 2 g = 0 := f_f h8
    have hp : padI 2 g b = -1 := f_f h8
    have hd : rfD 2 g b (kN 2 g + 5) = b.drop 5 := by rw [hk]; exact f_f h8
    have e : rfM 2 g s b = ⟨2, g, s, -1, false, b.drop 5, true, [], u1 b 4, lowN (u4 b 0), hiN (u4 b 0), 0, 0, 0, 0⟩ := by unfold rfM; rw [if_neg (by decide), if_neg (by decide), if_neg (by decide), if_neg (by decide), if_neg (by decide), if_pos (.inl rfl), hp, hd, hk]; rfl
    obtain ⟨y, hy⟩ := b_at (b := b) (k := 4) (by omega)
    have hgy := u1_at hy
    exact .inr (.inr (.inr (.inr (.inr (.inr (.inl ⟨y, rfl, h8, h32, rfl, hgy, rfl, hy, getN_bd _ 1, by omega, e⟩))))))
  have c3' := c3
  have c8t := c8
  rcases bTF (c := hasB t g 32) with h32 | h32
  · rcases bTF (c := hasB t g 8) with h8 | h8
    · have hk : kN t g = 1 := f_t h8
      have ha : ahI t g = 6 := by unfold ahI kI; rw [f_t h8, f_t h32, if_neg c5]; rfl
      have hp : padI t g b = getN b 1 := f_t h8
      have hd : rfD t g b (kN t g + 5) = (b.take ((b.length : Int) - getN b 1).toNat).drop 6 := by rw [hk]; exact f_t h8
      have hp2 := hP h8
      have e : rfM t g s b = ⟨t, g, s, getN b 1, false, (b.take ((b.length : Int) - getN b 1).toNat).drop 6, true, [], u1 b 5, lowN (u4 b 1), hiN (u4 b 1), 0, 0, 0, 0⟩ := by unfold rfM; rw [if_neg c3, if_neg c4, if_neg c8t, if_neg c7, if_neg c5, if_pos (.inr h32), hp, hd, hk]; rfl
      obtain ⟨x, hx⟩ := b_at (b := b) (k := 0) (by omega)
      have hgx : ((x.toNat : Nat) : Int) = getN b 1 := (getN_first hx).symm
      obtain ⟨y, hy⟩ := b_at (b := b) (k := 5) (by omega)
      have hgy := u1_at hy
      exact .inr (.inr (.inr (.inr (.inr (.inr (.inr (.inl ⟨x, y, ⟨c2, c3, c4, c5, c7, c8t⟩, h8, h32, hgx, hgy, rfl, hx, ⟨by omega, by omega⟩, hy, getN_bd _ 1, by omega, e⟩)))))))
    · have hk : kN t g = 0 := f_f h8
      have ha : ahI t g = 5 := by unfold ahI kI; rw [f_f h8, f_t h32, if_neg c5]; rfl
      have hp : padI t g b = -1 := f_f h8
      have hd : rfD t g b (kN t g + 5) = b.drop 5 := by rw [hk]; exact f_f h8
      have e : rfM t g s b = ⟨t, g, s, -1, false, b.drop 5, true, [], u1 b 4, lowN (u4 b 0), hiN (u4 b 0), 0, 0, 0, 0⟩ := by unfold rfM; rw [if_neg c3, if_neg c4, if_neg c8t, if_neg c7, if_neg c5, if_pos (.inr h32), hp, hd, hk]; rfl
      obtain ⟨y, hy⟩ := b_at (b := b) (k := 4) (by omega)
      have hgy := u1_at hy
      exact .inr (.inr (.inr (.inr (.inr (.inr (.inr (.inr (.inl ⟨y, ⟨c2, c3, c4, c5, c7, c8t⟩, h8, h32, rfl, hgy, rfl, hy, getN_bd _ 1, by omega, e⟩))))))))
  · rcases bTF (c := hasB t g 8) with h8 | h8
    · have hk : kN t g = 1 := f_t h8
      have ha : ahI t g = 1 := by unfold ahI kI; rw [f_t h8, f_f h32, if_neg c5]; rfl
      have hp : padI t g b = getN b 1 := f_t h8
      have hd : rfD t g b (kN t g) = (b.take ((b.length : Int) - getN b 1).toNat).drop 1 := by rw [hk]; exact f_t h8
      have hp2 := hP h8
      have e : rfM t g s b = ⟨t, g, s, getN b 1, false, (b.take ((b.length : Int) - getN b 1).toNat).drop 1, true, [], 0, 0, false, 0, 0, 0, 0⟩ := by unfold rfM; rw [if_neg c3, if_neg c4, if_neg c8t, if_neg c7, if_neg c5, if_neg (by rw [h32]; simpa using c2), hp, hd]
      obtain ⟨x, hx⟩ := b_at (b := b) (k := 0) (by omega)
      have hgx : ((x.toNat : Nat) : Int) = getN b 1 := (getN_first hx).symm
      exact .inr (.inr (.inr (.inr (.inr (.inr (.inr (.inr (.inr (.inl ⟨x, ⟨c2, c3, c4, c5, c7, c8t⟩, h8, h32, hgx, rfl, rfl, hx, ⟨by omega, by omega⟩, by omega, e⟩)))))))))
    · have hk : kN t g = 0 := f_f h8
      have ha : ahI t g = 0 := by unfold ahI kI; rw [f_f h8, f_f h32, if_neg c5]; rfl
      have hp : padI t g b = -1 := f_f h8
      have hd : rfD t g b (kN t g) = b := by rw [hk]; exact (f_f h8).trans (List.drop_zero)
      have e : rfM t g s b = ⟨t, g, s, -1, false, b, true, [], 0, 0, false, 0, 0, 0, 0⟩ := by unfold rfM; rw [if_neg c3, if_neg c4, if_neg c8t, if_neg c7, if_neg c5, if_neg (by rw [h32]; simpa using c2), hp, hd]
      exact .inr (.inr (.inr (.inr (.inr (.inr (.inr (.inr (.inr (.inr (⟨⟨c2, c3, c4, c5, c7, c8t⟩, h8, h32, rfl, rfl, rfl, by omega, e⟩))))))))))
set_option maxRecDepth 20000 in
set_option maxHeartbeats 40000000 in
theorem rfp_fault (w t g s : Int) (r f : Bool) (b : List UInt8) (hg0 : 0 ≤ g) (hg1 : g < 256) (hb : b.length ≤ 1000000000) (hW : ¬ (fauM t g s b).1 = 0) : AEq Try.prog 17 [.ag [i64 w, i64 t, i64 g, i64 s, bl r, .sl f false (b.map byteA)]] [] (.tu [.ag (fmA fm0), .ag [i64 (fauM t g s b).1, i64 (fauM t g s b).2]]) [] := by
  refine acall_body Try.func17 rfl Try.ntmps17 (by simp) (fun hsc => ?_); simp only [Lf.enter, Nat.reduceAdd]; clear hsc
  have hU := True.intro
  repeat' (first | (guard_target =~ PWp _ _ _ _ _ _ _; first | (refine pwp_draw_ord (id := 3) [0, 2, 1, 3] [2, 3] mixed (by kernel_rfl) (by kernel_rfl) ?_) | (refine pwp_seq_k (fun K hK => ?_)) | (refine pwp_rg_then ?_) | (refine pwp_ret ?_) | ((refine pwp_cond_d (fun hcd => ?_) (fun hcd => ?_)) <;> (try simp only [hcP] at hcd) <;> (try (exfalso; first | omega | exact absurd hcd (by assumption) | exact absurd (by assumption) hcd)))) | (guard_target =~ rg _ _ _ _ _ _ _; first | (guard_target =~ rg _ _ _ [] _ _ _; first | (refine rg_end ?_)) | (refine rg_v rfl (h := ?_)) | (refine rg_s rfl ?_) | (refine rg_n rfl ?_)) | (guard_target =~ SOp _ _ _ _ _ _; first | (guard_target =~ SOp _ _ ⟨_, .store _ _ _, _, _, _, none⟩ _ _ _; first | (refine n_store rfl (hK := ?_))) | (guard_target =~ SOp _ _ ⟨_, .alloc _, _, _, _, none⟩ _ _ _; first | (refine n_alloc rfl (by first | exact zv3 | exact zv4 | exact zv5 | exact zv22 | exact zv24 | exact zv26 | exact zv28 | exact zv30 | exact zv86 | fail) (hK := ?_))) | (guard_target =~ SOp _ _ ⟨_, .box _ _, _, _, _, none⟩ _ _ _; first | (refine n_box rfl (hK := ?_))) | (guard_target =~ SOp _ _ ⟨_, .call ⟨.value (.func 47), _, _⟩, _, _, _, none⟩ _ _ _; first | (refine n_call (f := 47) rfl Try.call47 (h := AEq.pure' (by first | ((repeat' (first | exact trivial | (first | exact arg_lit | exact arg_sl id id | exact arg_nil | exact arg_sl (by simp) id | exact arg_sl (by simp) (fun _ => rfl) | exact arg_row_m (by rfl) (by rfl) (fun _ => rfl) | exact arg_vw_m (by rfl) (by rfl) (fun _ => rfl) | exact arg_rn (by rfl) (by rfl) | exact arg_junk | exact arg_row_mm (by rfl) (by rfl) (fun _ => rfl)) | refine ⟨?_, ?_⟩)); done) | fail) (rffault _ _ _ _ _ _ _ (by assumption) (by assumption) (by assumption)) (hq := ?_))))) | (guard_target =~ dw _ _ _ _ _ _ _ _ _ _; first | (guard_target =~ dw _ _ _ _ _ (0 :: _) _ _ _ _; first | (refine dw_p rfl rfl (h := (fun τ => ro_s (h := n_build rfl (by first | exact bd24 | exact bd28 | exact bd30 | exact bd86 | fail) (hK := ro_end ⟨rfl, rfl⟩)))) (hk := ?_))) | (guard_target =~ dw _ _ _ _ _ (1 :: _) _ _ _ _; first | (refine dw_m rfl rfl (h := ro_v rfl (h := ro_end ⟨rfl, rfl⟩)) (h2 := allS_one (ro_v rfl (by first | (simp (disch := omega) only [go_sem, seval, ↓reduceIte, hU]; done) | rfl) (ro_end ⟨rfl, rfl⟩))) (hk := ?_))) | ((first | guard_target =~ dw _ _ _ _ _ (2 :: _) _ _ _ _ | guard_target =~ dw _ _ _ _ _ (3 :: _) _ _ _ _ | guard_target =~ dw _ _ _ _ _ (8 :: _) _ _ _ _); first | (refine dw_wn rfl rfl (h := ro_n (h := n_store rfl (hK := ro_end ⟨rfl, rfl⟩))) (hk := ?_))) | ((first | guard_target =~ dw _ _ _ _ _ (0 :: _) _ _ _ _ | guard_target =~ dw _ _ _ _ _ (7 :: _) _ _ _ _); first | (refine dw_m rfl rfl (h := ro_v rfl (h := ro_end ⟨rfl, rfl⟩)) (h2 := allS_one (ro_v rfl (by first | (simp (disch := omega) only [go_sem, seval, ↓reduceIte, hU]; done) | rfl) (ro_end ⟨rfl, rfl⟩))) (hk := ?_))) | ((first | guard_target =~ dw _ _ _ _ _ (2 :: _) _ _ _ _ | guard_target =~ dw _ _ _ _ _ (3 :: _) _ _ _ _ | guard_target =~ dw _ _ _ _ _ (4 :: _) _ _ _ _); first | (refine dw_m rfl rfl (h := ro_v rfl (h := ro_end ⟨rfl, rfl⟩)) (h2 := allS_one (ro_v rfl (by first | (simp (disch := omega) only [go_sem, seval, ↓reduceIte, hU]; done) | rfl) (ro_end ⟨rfl, rfl⟩))) (hk := ?_))) | (guard_target =~ dw _ _ _ _ _ [] _ _ _ _; first | (refine dw_nil ?_))) | (guard_target =~ (_ ∨ _) ∧ _; first | ((refine end_q [] (by first | exact .inr rfl | exact .inl rfl | fail) (by rfl) (by rw [Try.results17]; exact Lf.resM2 (by (try simp (disch := omega) only [Lf.resOne, go_sem, seval, ↓reduceIte, hU]); rfl) (by (try simp (disch := omega) only [Lf.resOne, go_sem, seval, ↓reduceIte, hU]); rfl)) (by (try simp (disch := omega) only [go_sem, seval, ↓reduceIte, hU]) <;> rfl) (by (try simp (disch := omega) only [go_sem, seval, ↓reduceIte, hU]) <;> rfl) (ale_2 ?_ ?_) ?_) <;> (try (first | exact ale_eq (by with_reducible rfl) | exact ale_full | exact ale_sl (fun _ => rfl) | exact ale_sl (by simp) | exact ale_junk | exact ale_eq rfl | exact stq (by with_reducible rfl) | exact stq (by rfl) | exact stq (by simp (disch := omega) only [go_sem, seval, ↓reduceIte, hU]))))) | (refine hK _ _ ?_; clear hK K))
  all_goals exact ale_eq rfl
set_option maxRecDepth 20000 in
set_option maxHeartbeats 40000000 in
theorem rfp_ok (w t g s : Int) (r f : Bool) (b : List UInt8) (hg0 : 0 ≤ g) (hg1 : g < 256) (hb : b.length ≤ 1000000000) (hW : fauM t g s b = (0, 0)) : AEq Try.prog 17 [.ag [i64 w, i64 t, i64 g, i64 s, bl r, .sl f false (b.map byteA)]] [] (.tu [.ag (fmA (rfM t g s b)), .ag [i64 0, i64 0]]) [] := by
  have hgb := getN_bd b 1
  rcases rfM_cases hW with ⟨rfl, hx8, hx32, hgx, hgy, hne, hln, e⟩ | ⟨rfl, hx8, hx32, hgx, hgy, hne, hln, e⟩ | ⟨rfl, hx8, hx32, hgx, hgy, hne, hln, e⟩ | ⟨rfl, hx8, hx32, hgx, hgy, hne, hln, e⟩ | ⟨x, rfl, hx8, hx32, hgx, hgy, hne, hx, ⟨hpb, hpb0⟩, hln, e⟩ | ⟨rfl, hx8, hx32, hgx, hgy, hne, hln, e⟩ | ⟨y, rfl, hx8, hx32, hgx, hgy, hne, hy, ⟨hu0, hu1⟩, hln, e⟩ | ⟨x, y, ⟨m2, m3, m4, m5, m7, m8⟩, hx8, hx32, hgx, hgy, hne, hx, ⟨hpb, hpb0⟩, hy, ⟨hu0, hu1⟩, hln, e⟩ | ⟨y, ⟨m2, m3, m4, m5, m7, m8⟩, hx8, hx32, hgx, hgy, hne, hy, ⟨hu0, hu1⟩, hln, e⟩ | ⟨x, ⟨m2, m3, m4, m5, m7, m8⟩, hx8, hx32, hgx, hgy, hne, hx, ⟨hpb, hpb0⟩, hln, e⟩ | ⟨⟨m2, m3, m4, m5, m7, m8⟩, hx8, hx32, hgx, hgy, hne, hln, e⟩
  all_goals rw [e]
  all_goals (refine acall_body Try.func17 rfl Try.ntmps17 (by simp) (fun hsc => ?_); simp only [Lf.enter, Nat.reduceAdd]; clear hsc)
  all_goals (have hU := And.intro @hW ( And.intro @hx8 ( And.intro @hx32 ( And.intro @hgx (@hgy)))))
  all_goals (repeat' (first | (guard_target =~ PWp _ _ _ _ _ _ _; first | (refine pwp_draw_ord (id := 39) [0, 1, 2, 3, 4, 5, 6, 7, 8] [6, 8] mixed (by kernel_rfl) (by kernel_rfl) ?_) | (refine pwp_seq_k (fun K hK => ?_)) | (refine pwp_block ?_) | (refine pwp_rg_then ?_) | (refine pwp_rg ?_) | (refine pwp_ret ?_) | (refine pwp_skip ?_) | ((refine pwp_cond_d (fun hcd => ?_) (fun hcd => ?_)) <;> (try simp only [hcP] at hcd) <;> (try (exfalso; first | omega | exact absurd hcd (by assumption) | exact absurd (by assumption) hcd)))) | (guard_target =~ rg _ _ _ _ _ _ _; first | (guard_target =~ rg _ _ _ (⟨_, .fieldAddr _ _ _, _, _, _, some _⟩ :: _) _ _ _; first | (refine rg_gtp rfl (h := ?_)) | (refine rg_gf rfl (hn := rfl) (h := ?_)) | (refine rg_gq rfl (h := ?_)) | (refine rg_gt rfl (h := ?_)) | ((first | refine rg_case (by simp only [go_sem, seval, ↓reduceIte, hU] <;> rfl) (fun hcd => ?_) (fun hcd => ?_) | refine rg_case2 (by simp only [go_sem, seval, ↓reduceIte, hU] <;> rfl) (fun hcd => ?_) (fun hcd => ?_)) <;> (try simp only [hcd]) <;> (try (simp only [Bool.not_eq_true', Bool.not_eq_false'] at hcd; try simp only [hcd])) <;> (refine rg_w (Γ2 := _) (by repeat' (first | exact envw_nil | apply envw_cons | exact opens_t | exact opens_f | exact opens_r)) ?_) <;> (try simp only [hcP] at hcd) <;> (try (exfalso; first | omega | exact absurd hcd (by assumption) | exact absurd (by assumption) hcd)))) | (guard_target =~ rg _ _ _ (⟨_, .load _ _, _, _, _, some _⟩ :: _) _ _ _; first | (refine rg_gtp rfl (h := ?_)) | (refine rg_gf rfl (hn := rfl) (h := ?_)) | (refine rg_gq rfl (h := ?_)) | (refine rg_gt rfl (h := ?_)) | ((first | refine rg_case (by simp only [go_sem, seval, ↓reduceIte, hU] <;> rfl) (fun hcd => ?_) (fun hcd => ?_) | refine rg_case2 (by simp only [go_sem, seval, ↓reduceIte, hU] <;> rfl) (fun hcd => ?_) (fun hcd => ?_)) <;> (try simp only [hcd]) <;> (try (simp only [Bool.not_eq_true', Bool.not_eq_false'] at hcd; try simp only [hcd])) <;> (refine rg_w (Γ2 := _) (by repeat' (first | exact envw_nil | apply envw_cons | exact opens_t | exact opens_f | exact opens_r)) ?_) <;> (try simp only [hcP] at hcd) <;> (try (exfalso; first | omega | exact absurd hcd (by assumption) | exact absurd (by assumption) hcd)))) | (guard_target =~ rg _ _ _ (⟨_, .call ⟨.value (.func 48), _, _⟩, _, _, _, some _⟩ :: _) _ _ _; first | (refine rg_gtp rfl (h := ?_)) | (refine rg_gf rfl (hn := rfl) (h := ?_)) | (refine rg_gq rfl (h := ?_)) | (refine rg_gt rfl (h := ?_)) | ((first | refine rg_case (by simp only [go_sem, seval, ↓reduceIte, hU] <;> rfl) (fun hcd => ?_) (fun hcd => ?_) | refine rg_case2 (by simp only [go_sem, seval, ↓reduceIte, hU] <;> rfl) (fun hcd => ?_) (fun hcd => ?_)) <;> (try simp only [hcd]) <;> (try (simp only [Bool.not_eq_true', Bool.not_eq_false'] at hcd; try simp only [hcd])) <;> (refine rg_w (Γ2 := _) (by repeat' (first | exact envw_nil | apply envw_cons | exact opens_t | exact opens_f | exact opens_r)) ?_) <;> (try simp only [hcP] at hcd) <;> (try (exfalso; first | omega | exact absurd hcd (by assumption) | exact absurd (by assumption) hcd)))) | (guard_target =~ rg _ _ _ [] _ _ _; first | (refine rg_end ?_)) | (refine rg_a rfl (h := ?_)) | (refine rg_x rfl (hy := rfl) (h := ?_)) | (refine rg_v rfl (h := ?_)) | (refine rg_s rfl ?_) | (refine rg_n rfl ?_)) | (guard_target =~ SOp _ _ _ _ _ _; first | (guard_target =~ SOp _ _ ⟨_, .store _ _ _, _, _, _, none⟩ _ _ _; first | (refine n_store rfl (hK := ?_))) | (guard_target =~ SOp _ _ ⟨_, .build _ _, _, _, _, none⟩ _ _ _; first | (refine n_build rfl (by first | exact bd24 | exact bd28 | exact bd30 | exact bd86 | fail) (hK := ?_))) | (guard_target =~ SOp _ _ ⟨_, .call ⟨.value (.func 49), _, _⟩, _, _, _, none⟩ _ _ _; first | (refine n_call (f := 49) rfl Try.call49 (h := AEq.pure' (by first | ((repeat' (first | exact trivial | (first | exact arg_lit | exact arg_sl id id | exact arg_nil | exact arg_sl (by simp) id | exact arg_sl (by simp) (fun _ => rfl) | exact arg_row_m (by rfl) (by rfl) (fun _ => rfl) | exact arg_vw_m (by rfl) (by rfl) (fun _ => rfl) | exact arg_rn (by rfl) (by rfl) | exact arg_junk | exact arg_row_mm (by rfl) (by rfl) (fun _ => rfl)) | refine ⟨?_, ?_⟩)); done) | fail) (rfnum _ _ _ _ (by first | assumption | omega) (by first | assumption | omega) (by first | assumption | omega)) (hq := ?_)))) | (guard_target =~ SOp _ _ ⟨_, .alloc _, _, _, _, none⟩ _ _ _; first | (refine n_alloc rfl (by first | exact zv3 | exact zv4 | exact zv5 | exact zv22 | exact zv24 | exact zv26 | exact zv28 | exact zv30 | exact zv86 | fail) (hK := ?_))) | (guard_target =~ SOp _ _ ⟨_, .call ⟨.value (.func 50), _, _⟩, _, _, _, none⟩ _ _ _; first | (refine n_call (f := 50) rfl Try.call50 (h := AEq.pure' (by first | ((repeat' (first | exact trivial | (first | exact arg_lit | exact arg_sl id id | exact arg_nil | exact arg_sl (by simp) id | exact arg_sl (by simp) (fun _ => rfl) | exact arg_row_m (by rfl) (by rfl) (fun _ => rfl) | exact arg_vw_m (by rfl) (by rfl) (fun _ => rfl) | exact arg_rn (by rfl) (by rfl) | exact arg_junk | exact arg_row_mm (by rfl) (by rfl) (fun _ => rfl)) | refine ⟨?_, ?_⟩)); done) | fail) (rfcode _ _ _ _ (by first | assumption | omega) (by first | assumption | omega) (by first | assumption | omega)) (hq := ?_)))) | (guard_target =~ SOp _ _ ⟨_, .indexAddr _ _ _, _, _, _, none⟩ _ _ _; first | (refine n_index rfl (hK := ?_))) | (guard_target =~ SOp _ _ ⟨_, .box _ _, _, _, _, none⟩ _ _ _; first | (refine n_box rfl (hK := ?_))) | (guard_target =~ SOp _ _ ⟨_, .call ⟨.value (.func 47), _, _⟩, _, _, _, none⟩ _ _ _; first | (refine n_call (f := 47) rfl Try.call47 (h := AEq.pure' (by first | ((repeat' (first | exact trivial | (first | exact arg_lit | exact arg_sl id id | exact arg_nil | exact arg_sl (by simp) id | exact arg_sl (by simp) (fun _ => rfl) | exact arg_row_m (by rfl) (by rfl) (fun _ => rfl) | exact arg_vw_m (by rfl) (by rfl) (fun _ => rfl) | exact arg_rn (by rfl) (by rfl) | exact arg_junk | exact arg_row_mm (by rfl) (by rfl) (fun _ => rfl)) | refine ⟨?_, ?_⟩)); done) | fail) (rffault _ _ _ _ _ _ _ (by first | assumption | omega) (by first | assumption | omega) (by first | assumption | omega)) (hq := ?_)))) | (guard_target =~ SOp _ _ ⟨_, .call ⟨.value (.func 48), _, _⟩, _, _, _, some _⟩ _ _ _; first | (refine n_call (f := 48) rfl Try.call48 (h := AEq.pure' (by first | ((repeat' (first | exact trivial | (first | exact arg_lit | exact arg_sl id id | exact arg_nil | exact arg_sl (by simp) id | exact arg_sl (by simp) (fun _ => rfl) | exact arg_row_m (by rfl) (by rfl) (fun _ => rfl) | exact arg_vw_m (by rfl) (by rfl) (fun _ => rfl) | exact arg_rn (by rfl) (by rfl) | exact arg_junk | exact arg_row_mm (by rfl) (by rfl) (fun _ => rfl)) | refine ⟨?_, ?_⟩)); done) | fail) (rkhas8 _ _ _ (by first | assumption | omega) (by first | assumption | omega) (by first | assumption | omega)) (hq := ?_))) | (refine n_call (f := 48) rfl Try.call48 (h := AEq.pure' (by first | ((repeat' (first | exact trivial | (first | exact arg_lit | exact arg_sl id id | exact arg_nil | exact arg_sl (by simp) id | exact arg_sl (by simp) (fun _ => rfl) | exact arg_row_m (by rfl) (by rfl) (fun _ => rfl) | exact arg_vw_m (by rfl) (by rfl) (fun _ => rfl) | exact arg_rn (by rfl) (by rfl) | exact arg_junk | exact arg_row_mm (by rfl) (by rfl) (fun _ => rfl)) | refine ⟨?_, ?_⟩)); done) | fail) (rkhas32 _ _ _ (by first | assumption | omega) (by first | assumption | omega) (by first | assumption | omega)) (hq := ?_)))) | (guard_target =~ SOp _ _ ⟨_, .call ⟨.value (.func 48), _, _⟩, _, _, _, none⟩ _ _ _; first | (refine n_call (f := 48) rfl Try.call48 (h := AEq.pure' (by first | ((repeat' (first | exact trivial | (first | exact arg_lit | exact arg_sl id id | exact arg_nil | exact arg_sl (by simp) id | exact arg_sl (by simp) (fun _ => rfl) | exact arg_row_m (by rfl) (by rfl) (fun _ => rfl) | exact arg_vw_m (by rfl) (by rfl) (fun _ => rfl) | exact arg_rn (by rfl) (by rfl) | exact arg_junk | exact arg_row_mm (by rfl) (by rfl) (fun _ => rfl)) | refine ⟨?_, ?_⟩)); done) | fail) (rkhas8 _ _ _ (by first | assumption | omega) (by first | assumption | omega) (by first | assumption | omega)) (hq := ?_))) | (refine n_call (f := 48) rfl Try.call48 (h := AEq.pure' (by first | ((repeat' (first | exact trivial | (first | exact arg_lit | exact arg_sl id id | exact arg_nil | exact arg_sl (by simp) id | exact arg_sl (by simp) (fun _ => rfl) | exact arg_row_m (by rfl) (by rfl) (fun _ => rfl) | exact arg_vw_m (by rfl) (by rfl) (fun _ => rfl) | exact arg_rn (by rfl) (by rfl) | exact arg_junk | exact arg_row_mm (by rfl) (by rfl) (fun _ => rfl)) | refine ⟨?_, ?_⟩)); done) | fail) (rkhas32 _ _ _ (by first | assumption | omega) (by first | assumption | omega) (by first | assumption | omega)) (hq := ?_)))) | (guard_target =~ SOp _ _ ⟨_, .call ⟨.value (.func 51), _, _⟩, _, _, _, none⟩ _ _ _; first | (refine n_call (f := 51) rfl Try.call51 (h := AEq.pure' (by first | ((repeat' (first | exact trivial | (first | exact arg_lit | exact arg_sl id id | exact arg_nil | exact arg_sl (by simp) id | exact arg_sl (by simp) (fun _ => rfl) | exact arg_row_m (by rfl) (by rfl) (fun _ => rfl) | exact arg_vw_m (by rfl) (by rfl) (fun _ => rfl) | exact arg_rn (by rfl) (by rfl) | exact arg_junk | exact arg_row_mm (by rfl) (by rfl) (fun _ => rfl)) | refine ⟨?_, ?_⟩)); done) | fail) (rset_parse _ _ (by first | assumption | omega)) (hq := ?_))))) | (guard_target =~ dw _ _ _ _ _ _ _ _ _ _; first | (guard_target =~ dw _ _ _ _ _ (1 :: _) _ _ _ _; first | (refine dw_p rfl rfl (h := (fun τ => ro_v rfl (h := ro_end ⟨rfl, rfl⟩))) (hk := ?_)) | (refine dw_c rfl rfl (h := ro_v rfl (h := ro_end ⟨rfl, rfl⟩)) (hk := ?_))) | ((first | guard_target =~ dw _ _ _ _ _ (2 :: _) _ _ _ _ | guard_target =~ dw _ _ _ _ _ (3 :: _) _ _ _ _ | guard_target =~ dw _ _ _ _ _ (8 :: _) _ _ _ _); first | (refine dw_wn rfl rfl (h := ro_n (h := n_store rfl (hK := ro_end ⟨rfl, rfl⟩))) (hk := ?_))) | ((first | guard_target =~ dw _ _ _ _ _ (0 :: _) _ _ _ _ | guard_target =~ dw _ _ _ _ _ (7 :: _) _ _ _ _); first | (refine dw_p rfl rfl (h := (fun τ => ro_v rfl (h := ro_end ⟨rfl, rfl⟩))) (hk := ?_)) | (refine dw_c rfl rfl (h := ro_v rfl (h := ro_end ⟨rfl, rfl⟩)) (hk := ?_))) | ((first | guard_target =~ dw _ _ _ _ _ (2 :: _) _ _ _ _ | guard_target =~ dw _ _ _ _ _ (3 :: _) _ _ _ _ | guard_target =~ dw _ _ _ _ _ (4 :: _) _ _ _ _); first | (refine dw_p rfl rfl (h := (fun τ => ro_v rfl (h := ro_end ⟨rfl, rfl⟩))) (hk := ?_)) | (refine dw_c rfl rfl (h := ro_v rfl (h := ro_end ⟨rfl, rfl⟩)) (hk := ?_))) | (guard_target =~ dw _ _ _ _ _ (5 :: _) _ _ _ _; first | (refine dw_p rfl rfl (h := (fun τ => ro_s (h := n_slice rfl (hg := (fun _ => (by simp only [go_sem, seval, ↓reduceIte, hU] <;> rfl))) (hK := ro_end ⟨rfl, rfl⟩)))) (hk := ?_))) | (guard_target =~ dw _ _ _ _ _ (6 :: _) _ _ _ _; first | (refine dw_w rfl rfl (h := ro_s (h := n_append_new rfl (he := by first | exact eo3 | exact eo4 | exact eo5 | exact eo22 | exact eo24 | exact eo26 | exact eo28 | exact eo30 | exact eo86 | fail) (hne := by first | exact .inl rfl | exact .inr (by assumption) | exact .inr (by simp; done) | fail) (hK := ro_end ⟨rfl, rfl⟩))) (hk := ?_))) | (guard_target =~ dw _ _ _ _ _ [] _ _ _ _; first | (refine dw_nil ?_))) | (guard_target =~ (_ ∨ _) ∧ _; first | ((refine end_q [] (by first | exact .inr rfl | exact .inl rfl | fail) (by rfl) (by rw [Try.results17]; exact Lf.resM2 (by (try simp (disch := omega) only [Lf.resOne, go_sem, seval, ↓reduceIte, hU]); rfl) (by (try simp (disch := omega) only [Lf.resOne, go_sem, seval, ↓reduceIte, hU]); rfl)) (by (try simp (disch := omega) only [go_sem, seval, ↓reduceIte, hU]) <;> rfl) (by (try simp (disch := omega) only [go_sem, seval, ↓reduceIte, hU]) <;> rfl) (ale_2 ?_ ?_) ?_) <;> (try (first | exact ale_eq (by with_reducible rfl) | exact ale_full | exact ale_sl (fun _ => rfl) | exact ale_sl (by simp) | exact ale_junk | exact ale_eq rfl | exact stq (by with_reducible rfl) | exact stq (by rfl) | exact stq (by simp (disch := omega) only [go_sem, seval, ↓reduceIte, hU]))))) | (refine hK _ _ ?_; clear hK K)))
  all_goals exact ale_eq rfl
end Go.Proofs.Ytpkangodlfhjgaa
