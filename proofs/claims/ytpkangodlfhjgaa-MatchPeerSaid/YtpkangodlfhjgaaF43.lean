import Derived.Test.YtpkangodlfhjgaaF42
import Derived.Test.YtpkangodlfhjgaaF08
import Derived.Test.YtpkangodlfhjgaaLc
set_option linter.unusedVariables false
set_option linter.unusedSimpArgs false
namespace Go.Proofs.Ytpkangodlfhjgaa
open Go Go.Lf Go.Proofs
attribute [local irreducible] Lf.rg Lf.ro Lf.PWp Lf.SOp Lf.ACall Lf.Scoped Lf.dg Lf.dw
set_option maxRecDepth 20000
set_option maxHeartbeats 4000000
def gm (f : Fm) : Gm := ⟨f.t, f.g, f.s, f.p, f.d, f.st, f.wt, f.pa, f.al, f.pr, f.la, f.co, f.sp⟩
theorem fau_str {t g s : Int} {b : List UInt8} (h : fauM t g s b = (0, 0)) : strOk t s = true := by
  cases e : strOk t s with
  | true => rfl
  | false => unfold fauM at h; rw [if_pos e] at h; exact absurd h (by decide)
theorem byL_drop {b : List UInt8} {k : Int} (h0 : 0 ≤ k) (h : k ≤ b.length) : byL b k (b.length - k) = b.drop k.toNat := by
  have e : byE b k ((b.length : Int) - k) = 0 := by unfold byE; rw [if_neg (by omega), if_neg (by omega)]
  unfold byL
  rw [if_pos e, List.take_of_length_le (by rw [List.length_drop]; omega)]
theorem byL_pad {b : List UInt8} {k m : Int} (h0 : 0 ≤ k) (hm : 0 ≤ m) (h : k + m ≤ b.length) : byL b k (b.length - k - m) = (b.take ((b.length : Int) - m).toNat).drop k.toNat := by
  have e : byE b k ((b.length : Int) - k - m) = 0 := by unfold byE; rw [if_neg (by omega), if_neg (by omega)]
  unfold byL
  rw [if_pos e, List.drop_take]
  congr 1
  omega
theorem insM_o {t g s : Int} {b : List UInt8} {n : Nm} {p : Int} (hp : padI t g b = p) (hn : numT t g b (insA t g b) = n) (hs : (hasB t g 8 && shB b 0 1) = false) (hn2 : n.sh = false) (h : ¬ (b.length : Int) - n.pos < p) :
    insM t g s b = (if t = 4 then ⟨t, g, s, p, true, [], false, parL b, n.wt, n.pa, n.al, n.pr, n.la, n.co, n.sp⟩ else ⟨t, g, s, p, false, byL b n.pos (b.length - n.pos - max p 0), true, [], n.wt, n.pa, n.al, n.pr, n.la, n.co, n.sp⟩, 0, 0) := by
  have hS : insS t g b = false := by unfold insS; rw [hs, hn, hn2]; rfl
  unfold insM
  dsimp only
  rw [if_neg (by rw [hS]; simp), hn, hp, if_neg h]
  split <;> rfl
theorem par_ok {t g s : Int} {b : List UInt8} (h : fauM t g s b = (0, 0)) : (parM t g s b).2 = (0, 0) ∧ gm (parM t g s b).1 = gm (rfM t g s b) := by
  have hst := fau_str h
  obtain ⟨hL, _, _⟩ := fau_ok h
  have e0 : parM t g s b = insM t g s b := by
    unfold parM; rw [if_neg (by rw [hst]; simp), if_neg (by rw [hL]; simp)]
  rw [e0]
  rcases rfM_cases h with ⟨rfl, hx8, hx32, hgx, hgy, hne, hln, e⟩ | ⟨rfl, hx8, hx32, hgx, hgy, hne, hln, e⟩ | ⟨rfl, hx8, hx32, hgx, hgy, hne, hln, e⟩ | ⟨rfl, hx8, hx32, hgx, hgy, hne, hln, e⟩ | ⟨x, rfl, hx8, hx32, hgx, hgy, hne, hx, ⟨hpb, hpb0⟩, hln, e⟩ | ⟨rfl, hx8, hx32, hgx, hgy, hne, hln, e⟩ | ⟨y, rfl, hx8, hx32, hgx, hgy, hne, hy, ⟨hu0, hu1⟩, hln, e⟩ | ⟨x, y, ⟨m2, m3, m4, m5, m7, m8⟩, hx8, hx32, hgx, hgy, hne, hx, ⟨hpb, hpb0⟩, hy, ⟨hu0, hu1⟩, hln, e⟩ | ⟨y, ⟨m2, m3, m4, m5, m7, m8⟩, hx8, hx32, hgx, hgy, hne, hy, ⟨hu0, hu1⟩, hln, e⟩ | ⟨x, ⟨m2, m3, m4, m5, m7, m8⟩, hx8, hx32, hgx, hgy, hne, hx, ⟨hpb, hpb0⟩, hln, e⟩ | ⟨⟨m2, m3, m4, m5, m7, m8⟩, hx8, hx32, hgx, hgy, hne, hln, e⟩
  · rw [e]
    have hA : insA 3 g b = 0 := f_f hx8
    have hs : (hasB 3 g 8 && shB b 0 1) = false := by rw [hx8]; rfl
    have hp : padI 3 g b = -1 := f_f hx8
    have hn : numT 3 g b (insA 3 g b) = ⟨0, 0, false, 0, 0, u4 b 0, 0, shB b 0 4, 4⟩ := by rw [hA]; rw [show numT 3 g b 0 = ⟨0, 0, false, 0, 0, u4 b 0, 0, shB b 0 4, posN b 0 4⟩ from rfl]; rw [posN_y (show (0 : Int) + 4 ≤ b.length by omega)]; rfl
    rw [insM_o hp hn hs (shB_n (by omega)) (by dsimp only; omega)]
    refine ⟨rfl, ?_⟩
    rw [if_neg (by decide)]
    unfold gm
    dsimp only
    rw [show max (-1 : Int) 0 = 0 from rfl, Int.sub_zero, byL_drop (by decide) (by omega), List.drop_of_length_le (by show b.length ≤ 4; omega)]
    all_goals rfl
  · rw [e]
    have hA : insA 4 g b = 0 := f_f hx8
    have hs : (hasB 4 g 8 && shB b 0 1) = false := by rw [hx8]; rfl
    have hp : padI 4 g b = -1 := f_f hx8
    have hn : numT 4 g b (insA 4 g b) = ⟨0, 0, false, 0, 0, 0, 0, false, 0⟩ := by rw [hA]; rw [show numT 4 g b 0 = ⟨0, 0, false, 0, 0, 0, 0, false, 0⟩ from rfl]
    rw [insM_o hp hn hs rfl (by dsimp only; omega)]
    refine ⟨rfl, ?_⟩
    rw [if_pos rfl]
    all_goals rfl
  · rw [e]
    have hA : insA 8 g b = 0 := f_f hx8
    have hs : (hasB 8 g 8 && shB b 0 1) = false := by rw [hx8]; rfl
    have hp : padI 8 g b = -1 := f_f hx8
    have hn : numT 8 g b (insA 8 g b) = ⟨0, 0, false, 0, 0, 0, lowN (u4 b 0), shB b 0 4, 4⟩ := by rw [hA]; rw [show numT 8 g b 0 = ⟨0, 0, false, 0, 0, 0, lowN (u4 b 0), shB b 0 4, posN b 0 4⟩ from rfl]; rw [posN_y (show (0 : Int) + 4 ≤ b.length by omega)]; rfl
    rw [insM_o hp hn hs (shB_n (by omega)) (by dsimp only; omega)]
    refine ⟨rfl, ?_⟩
    rw [if_neg (by decide)]
    unfold gm
    dsimp only
    rw [show max (-1 : Int) 0 = 0 from rfl, Int.sub_zero, byL_drop (by decide) (by omega), List.drop_of_length_le (by show b.length ≤ 4; omega)]
    all_goals rfl
  · rw [e]
    have hA : insA 7 g b = 0 := f_f hx8
    have hs : (hasB 7 g 8 && shB b 0 1) = false := by rw [hx8]; rfl
    have hp : padI 7 g b = -1 := f_f hx8
    have hn : numT 7 g b (insA 7 g b) = ⟨0, 0, false, 0, lowN (u4 b 0), u4 b 4, 0, shB b 0 8, 8⟩ := by rw [hA]; rw [show numT 7 g b 0 = ⟨0, 0, false, 0, lowN (u4 b 0), u4 b (posN b 0 4), 0, shB b 0 8, posN b (posN b 0 4) 4⟩ from rfl]; rw [posN_y (show (0 : Int) + 4 ≤ b.length by omega), posN_y (show (0 + 4 : Int) + 4 ≤ b.length by omega)]; rfl
    rw [insM_o hp hn hs (shB_n (by omega)) (by dsimp only; omega)]
    refine ⟨rfl, ?_⟩
    rw [if_neg (by decide)]
    unfold gm
    dsimp only
    rw [show max (-1 : Int) 0 = 0 from rfl, Int.sub_zero, byL_drop (by decide) (by omega)]
    all_goals rfl
  · rw [e]
    have hA : insA 5 g b = 1 := (f_t hx8).trans (posN_y (by omega))
    have hs : (hasB 5 g 8 && shB b 0 1) = false := by rw [hx8, shB_n (by omega)]; rfl
    have hp : padI 5 g b = getN b 1 := f_t hx8
    have hn : numT 5 g b (insA 5 g b) = ⟨0, 0, false, lowN (u4 b 1), 0, 0, 0, shB b 1 4, 5⟩ := by rw [hA]; rw [show numT 5 g b 1 = ⟨0, 0, false, lowN (u4 b 1), 0, 0, 0, shB b 1 4, posN b 1 4⟩ from rfl]; rw [posN_y (show (1 : Int) + 4 ≤ b.length by omega)]; rfl
    rw [insM_o hp hn hs (shB_n (by omega)) (by dsimp only; omega)]
    refine ⟨rfl, ?_⟩
    rw [if_neg (by decide)]
    unfold gm
    dsimp only
    rw [show max (getN b 1) 0 = getN b 1 from by omega, byL_pad (by decide) hpb0 (by omega)]
    all_goals rfl
  · rw [e]
    have hA : insA 5 g b = 0 := f_f hx8
    have hs : (hasB 5 g 8 && shB b 0 1) = false := by rw [hx8]; rfl
    have hp : padI 5 g b = -1 := f_f hx8
    have hn : numT 5 g b (insA 5 g b) = ⟨0, 0, false, lowN (u4 b 0), 0, 0, 0, shB b 0 4, 4⟩ := by rw [hA]; rw [show numT 5 g b 0 = ⟨0, 0, false, lowN (u4 b 0), 0, 0, 0, shB b 0 4, posN b 0 4⟩ from rfl]; rw [posN_y (show (0 : Int) + 4 ≤ b.length by omega)]; rfl
    rw [insM_o hp hn hs (shB_n (by omega)) (by dsimp only; omega)]
    refine ⟨rfl, ?_⟩
    rw [if_neg (by decide)]
    unfold gm
    dsimp only
    rw [show max (-1 : Int) 0 = 0 from rfl, Int.sub_zero, byL_drop (by decide) (by omega)]
    all_goals rfl
  · rw [e]
    have hA : insA 2 g b = 0 := f_f hx8
    have hs : (hasB 2 g 8 && shB b 0 1) = false := by rw [hx8]; rfl
    have hp : padI 2 g b = -1 := f_f hx8
    have hn : numT 2 g b (insA 2 g b) = ⟨u1 b 4, lowN (u4 b 0), hiN (u4 b 0), 0, 0, 0, 0, shB b 0 5, 5⟩ := by rw [hA]; rw [show numT 2 g b 0 = ⟨u1 b (posN b 0 4), lowN (u4 b 0), hiN (u4 b 0), 0, 0, 0, 0, shB b 0 5, posN b (posN b 0 4) 1⟩ from rfl]; rw [posN_y (show (0 : Int) + 4 ≤ b.length by omega), posN_y (show (0 + 4 : Int) + 1 ≤ b.length by omega)]; rfl
    rw [insM_o hp hn hs (shB_n (by omega)) (by dsimp only; omega)]
    refine ⟨rfl, ?_⟩
    rw [if_neg (by decide)]
    unfold gm
    dsimp only
    rw [show max (-1 : Int) 0 = 0 from rfl, Int.sub_zero, byL_drop (by decide) (by omega)]
    all_goals rfl
  · obtain rfl : t = 1 := by apply Decidable.byContradiction; intro hn1; rw [hasB_n32 hn1] at hx32; exact absurd hx32 (by simp)
    rw [e]
    have hA : insA 1 g b = 1 := (f_t hx8).trans (posN_y (by omega))
    have hs : (hasB 1 g 8 && shB b 0 1) = false := by rw [hx8, shB_n (by omega)]; rfl
    have hp : padI 1 g b = getN b 1 := f_t hx8
    have hn : numT 1 g b (insA 1 g b) = ⟨u1 b 5, lowN (u4 b 1), hiN (u4 b 1), 0, 0, 0, 0, shB b 1 5, 6⟩ := by rw [hA]; rw [show numT 1 g b 1 = ⟨u1 b (posN b 1 4), lowN (u4 b 1), hiN (u4 b 1), 0, 0, 0, 0, shB b 1 5, posN b (posN b 1 4) 1⟩ from (if_pos rfl).trans (if_pos hx32)]; rw [posN_y (show (1 : Int) + 4 ≤ b.length by omega), posN_y (show (1 + 4 : Int) + 1 ≤ b.length by omega)]; rfl
    rw [insM_o hp hn hs (shB_n (by omega)) (by dsimp only; omega)]
    refine ⟨rfl, ?_⟩
    rw [if_neg (by decide)]
    unfold gm
    dsimp only
    rw [show max (getN b 1) 0 = getN b 1 from by omega, byL_pad (by decide) hpb0 (by omega)]
    all_goals rfl
  · obtain rfl : t = 1 := by apply Decidable.byContradiction; intro hn1; rw [hasB_n32 hn1] at hx32; exact absurd hx32 (by simp)
    rw [e]
    have hA : insA 1 g b = 0 := f_f hx8
    have hs : (hasB 1 g 8 && shB b 0 1) = false := by rw [hx8]; rfl
    have hp : padI 1 g b = -1 := f_f hx8
    have hn : numT 1 g b (insA 1 g b) = ⟨u1 b 4, lowN (u4 b 0), hiN (u4 b 0), 0, 0, 0, 0, shB b 0 5, 5⟩ := by rw [hA]; rw [show numT 1 g b 0 = ⟨u1 b (posN b 0 4), lowN (u4 b 0), hiN (u4 b 0), 0, 0, 0, 0, shB b 0 5, posN b (posN b 0 4) 1⟩ from (if_pos rfl).trans (if_pos hx32)]; rw [posN_y (show (0 : Int) + 4 ≤ b.length by omega), posN_y (show (0 + 4 : Int) + 1 ≤ b.length by omega)]; rfl
    rw [insM_o hp hn hs (shB_n (by omega)) (by dsimp only; omega)]
    refine ⟨rfl, ?_⟩
    rw [if_neg (by decide)]
    unfold gm
    dsimp only
    rw [show max (-1 : Int) 0 = 0 from rfl, Int.sub_zero, byL_drop (by decide) (by omega)]
    all_goals rfl
  · rw [e]
    have hA : insA t g b = 1 := (f_t hx8).trans (posN_y (by omega))
    have hs : (hasB t g 8 && shB b 0 1) = false := by rw [hx8, shB_n (by omega)]; rfl
    have hp : padI t g b = getN b 1 := f_t hx8
    have hn : numT t g b (insA t g b) = ⟨0, 0, false, 0, 0, 0, 0, false, 1⟩ := by rw [hA]; rw [show numT t g b 1 = ⟨0, 0, false, 0, 0, 0, 0, false, 1⟩ from by unfold numT; split; exact if_neg (by rw [show hasB 1 g 32 = hasB t g 32 from by subst_vars; rfl, hx32]; simp); simp [m2, m3, m5, m7, m8]]
    rw [insM_o hp hn hs rfl (by dsimp only; omega)]
    refine ⟨rfl, ?_⟩
    rw [if_neg m4]
    unfold gm
    dsimp only
    rw [show max (getN b 1) 0 = getN b 1 from by omega, byL_pad (by decide) hpb0 (by omega)]
    all_goals rfl
  · rw [e]
    have hA : insA t g b = 0 := f_f hx8
    have hs : (hasB t g 8 && shB b 0 1) = false := by rw [hx8]; rfl
    have hp : padI t g b = -1 := f_f hx8
    have hn : numT t g b (insA t g b) = ⟨0, 0, false, 0, 0, 0, 0, false, 0⟩ := by rw [hA]; rw [show numT t g b 0 = ⟨0, 0, false, 0, 0, 0, 0, false, 0⟩ from by unfold numT; split; exact if_neg (by rw [show hasB 1 g 32 = hasB t g 32 from by subst_vars; rfl, hx32]; simp); simp [m2, m3, m5, m7, m8]]
    rw [insM_o hp hn hs rfl (by dsimp only; omega)]
    refine ⟨rfl, ?_⟩
    rw [if_neg m4]
    unfold gm
    dsimp only
    rw [show max (-1 : Int) 0 = 0 from rfl, Int.sub_zero, byL_drop (by decide) (by omega)]
    all_goals rfl
theorem has8_t {t g : Int} (h : hasB t g 8 = true) : t = 0 ∨ t = 1 ∨ t = 5 := by
  apply Decidable.byContradiction
  intro hn
  rw [hasB_n8 (by omega) (by omega) (by omega)] at h
  exact absurd h (by simp)
theorem has32_t {t g : Int} (h : hasB t g 32 = true) : t = 1 := by
  apply Decidable.byContradiction
  intro hn
  rw [hasB_n32 hn] at h
  exact absurd h (by simp)
theorem ins_short {t g : Int} {b : List UInt8} (h : (b.length : Int) < ahI t g) : insS t g b = true := by
  obtain ⟨c8, c32, h8, h32, hc⟩ := ahI_cases t g
  rcases hc with ⟨h5, rfl, rfl, ha⟩ | ⟨h5, rfl, rfl, ha⟩ | ⟨h5, rfl, rfl, ha⟩ | ⟨h5, rfl, rfl, ha⟩ | ⟨h5, rfl, rfl, ha⟩ | ⟨h5, rfl, rfl, ha⟩
  · subst h5
    by_cases h1 : b.length < 1
    · unfold insS; rw [h8, shB_y (by omega)]; rfl
    · have hA : insA 5 g b = 1 := (f_t h8).trans (posN_y (by omega))
      unfold insS
      rw [hA, show (numT 5 g b 1).sh = shB b 1 4 from rfl, shB_y (a := 1) (by omega), Bool.or_true]
  · subst h5
    have hA : insA 5 g b = 0 := f_f h8
    unfold insS
    rw [hA, show (numT 5 g b 0).sh = shB b 0 4 from rfl, shB_y (a := 0) (n := 4) (by omega), Bool.or_true]
  · obtain rfl := has32_t h32
    by_cases h1 : b.length < 1
    · unfold insS; rw [h8, shB_y (by omega)]; rfl
    · have hA : insA 1 g b = 1 := (f_t h8).trans (posN_y (by omega))
      unfold insS
      rw [hA, show (numT 1 g b 1).sh = shB b 1 5 from by unfold numT; rw [if_pos rfl, if_pos h32], shB_y (a := 1) (n := 5) (by omega), Bool.or_true]
  · obtain rfl := has32_t h32
    have hA : insA 1 g b = 0 := f_f h8
    unfold insS
    rw [hA, show (numT 1 g b 0).sh = shB b 0 5 from by unfold numT; rw [if_pos rfl, if_pos h32], shB_y (a := 0) (n := 5) (by omega), Bool.or_true]
  · unfold insS; rw [h8, shB_y (a := 0) (n := 1) (by omega)]; rfl
  · omega
theorem ins_pad {t g s : Int} {b : List UInt8} (h8 : hasB t g 8 = true) (h : ¬ (b.length : Int) < ahI t g) (hp : (b.length : Int) - ahI t g < getN b 1) : insM t g s b = (fm0, 2, 1) := by
  have hk2 := kI_ah (t := t) (g := g)
  have hk : kI t g = 1 := f_t h8
  have hA : insA t g b = 1 := (f_t h8).trans (posN_y (by omega))
  have hpd : padI t g b = getN b 1 := f_t h8
  have key : (numT t g b 1).sh = false ∧ (numT t g b 1).pos = ahI t g := by
    rcases has8_t h8 with rfl | rfl | rfl
    · have ha : ahI 0 g = 1 := by unfold ahI; rw [hk, f_f (hasB_n32 (by decide)), if_neg (by decide)]; rfl
      rw [ha]; exact ⟨rfl, rfl⟩
    · rcases bTF (c := hasB 1 g 32) with h32 | h32
      · have ha : ahI 1 g = 6 := by unfold ahI; rw [hk, f_t h32, if_neg (by decide)]; rfl
        rw [show numT 1 g b 1 = ⟨u1 b (posN b 1 4), lowN (u4 b 1), hiN (u4 b 1), 0, 0, 0, 0, shB b 1 5, posN b (posN b 1 4) 1⟩ from (if_pos rfl).trans (if_pos h32), ha]
        refine ⟨shB_n (by omega), ?_⟩
        show posN b (posN b 1 4) 1 = 6
        rw [posN_y (show (1 : Int) + 4 ≤ b.length by omega), posN_y (show (1 + 4 : Int) + 1 ≤ b.length by omega)]; rfl
      · have ha : ahI 1 g = 1 := by unfold ahI; rw [hk, f_f h32, if_neg (by decide)]; rfl
        rw [show numT 1 g b 1 = ⟨0, 0, false, 0, 0, 0, 0, false, 1⟩ from (if_pos rfl).trans (if_neg (by rw [h32]; simp)), ha]
        exact ⟨rfl, rfl⟩
    · have ha : ahI 5 g = 5 := by unfold ahI; rw [hk, f_f (hasB_n32 (by decide)), if_pos rfl]; rfl
      rw [ha]
      refine ⟨shB_n (a := 1) (n := 4) (by omega), ?_⟩
      show posN b 1 4 = 5
      rw [posN_y (show (1 : Int) + 4 ≤ b.length by omega)]; rfl
  have hS : insS t g b = false := by unfold insS; rw [hA, key.1, h8, shB_n (by omega)]; rfl
  unfold insM
  dsimp only
  rw [if_neg (by rw [hS]; simp), hA, key.2, hpd, if_pos hp]
theorem par_no {t g s : Int} {b : List UInt8} (h : ¬ fauM t g s b = (0, 0)) : parM t g s b = (fm0, fauM t g s b) := by
  rcases bTF (c := strOk t s) with h1 | h1
  · have n1 : ¬ strOk t s = false := by rw [h1]; simp
    rcases bTF (c := lenB t g b.length) with h2 | h2
    · have n2 : ¬ lenB t g b.length = false := by rw [h2]; simp
      have e : parM t g s b = insM t g s b := by unfold parM; rw [if_neg n1, if_neg n2]
      rw [e]
      by_cases hS : (b.length : Int) < ahI t g
      · have hk := kI_ah (t := t) (g := g)
        have e2 : fauM t g s b = (if t = 0 then 1 else 2, 6) := by unfold fauM; rw [if_neg n1, if_neg n2, if_pos hS]
        rw [e2, ← ahI_sc (t := t) (g := g) (by omega)]
        unfold insM
        dsimp only
        rw [if_pos (ins_short hS)]
      · by_cases hP : hasB t g 8 = true ∧ (b.length : Int) - ahI t g < getN b 1
        · have e2 : fauM t g s b = (2, 1) := by unfold fauM; rw [if_neg n1, if_neg n2, if_neg hS, if_pos hP]
          rw [e2]
          exact ins_pad hP.1 hS hP.2
        · exfalso
          apply h
          unfold fauM; rw [if_neg n1, if_neg n2, if_neg hS, if_neg hP]
    · have e2 : fauM t g s b = (if t = 2 then 1 else 2, 6) := by unfold fauM; rw [if_neg n1, if_pos h2]
      rw [e2, ← lenB_sc h2]
      unfold parM; rw [if_neg n1, if_pos h2]
  · have e2 : fauM t g s b = (2, 1) := if_pos h1
    rw [e2]
    unfold parM; rw [if_pos h1]
end Go.Proofs.Ytpkangodlfhjgaa
