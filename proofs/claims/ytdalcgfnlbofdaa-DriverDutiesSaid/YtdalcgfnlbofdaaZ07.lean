import Derived.Test.YtdalcgfnlbofdaaZ06
import Derived.Test.YtdalcgfnlbofdaaLc
import Derived.Test.YtdalcgfnlbofdaaZ01
import Derived.Shelf.RegionOpenPlain
import Derived.WalkKit
import Derived.Deep.RegionLaw
import Derived.Lib.SliceRun
import Derived.Test.YtdalcgfnlbofdaaZ05
set_option linter.unusedVariables false
set_option linter.unusedSimpArgs false
namespace Go.Proofs.Ytdalcgfnlbofdaa
open Go Go.Lf Go.Proofs
attribute [local irreducible] Lf.rg Lf.ro Lf.PWp Lf.SOp Lf.ACall Lf.Scoped Lf.dg Lf.dw
set_option maxRecDepth 20000
set_option maxHeartbeats 4000000
def gm (f : Fm) : Gm := ⟨f.t, f.g, f.s, f.p, f.d, f.st, f.wt, f.pa, f.al, f.pr, f.la, f.co, f.sp⟩
theorem fau_str {t g s : Int} {b : List UInt8} (h : fauM t g s b = (0, 0)) : strOk t s = true := by
 cases e : strOk t s with
 | true => rfl
 | false => unfold fauM at h; rw [if_pos e] at h; exact absurd h (by decide)
theorem byL_drop {b : List UInt8} {k : Int} (h0 : 0 ≤ k) (h : k ≤ b.length) : byL b k (b.length - k) = b.drop k.toNat := by
 have e : byE b k ((b.length : Int) - k) = 0 := by unfold byE; rw [if_neg (by omega), if_neg (by omega)]
 unfold byL
 rw [if_pos e, List.take_of_length_le (by rw [List.length_drop]; omega)]
theorem byL_pad {b : List UInt8} {k m : Int} (h0 : 0 ≤ k) (hm : 0 ≤ m) (h : k + m ≤ b.length) : byL b k (b.length - k - m) = (b.take ((b.length : Int) - m).toNat).drop k.toNat := by
 have e : byE b k ((b.length : Int) - k - m) = 0 := by unfold byE; rw [if_neg (by omega), if_neg (by omega)]
 unfold byL
 rw [if_pos e, List.drop_take]
 congr 1
 omega
theorem insM_o {t g s : Int} {b : List UInt8} {n : Nm} {p : Int} (hp : padI t g b = p) (hn : numT t g b (insA t g b) = n) (hs : (hasB t g 8 && shB b 0 1) = false) (hn2 : n.sh = false) (h : ¬ (b.length : Int) - n.pos < p) :
    insM t g s b = (if t = 4 then ⟨t, g, s, p, true, [], false, parL b, n.wt, n.pa, n.al, n.pr, n.la, n.co, n.sp⟩ else ⟨t, g, s, p, false, byL b n.pos (b.length - n.pos - max p 0), true, [], n.wt, n.pa, n.al, n.pr, n.la, n.co, n.sp⟩, 0, 0) := by
  have hS : insS t g b = false := by unfold insS; rw [hs, hn, hn2]; rfl
  unfold insM
  dsimp only
  rw [if_neg (by rw [hS]; simp), hn, hp, if_neg h]
  split <;> rfl
theorem par_ok {t g s : Int} {b : List UInt8} (h : fauM t g s b = (0, 0)) : (parM t g s b).2 = (0, 0) ∧ gm (parM t g s b).1 = gm (rfM t g s b) := by
 have hst := fau_str h
 obtain ⟨hL, _, _⟩ := fau_ok h
 have e0 : parM t g s b = insM t g s b := by
  unfold parM; rw [if_neg (by rw [hst]; simp), if_neg (by rw [hL]; simp)]
 rw [e0]
 rcases rfM_cases h with ⟨rfl, hx8, hx32, hgx, hgy, hne, hln, e⟩ | ⟨rfl, hx8, hx32, hgx, hgy, hne, hln, e⟩ | ⟨rfl, hx8, hx32, hgx, hgy, hne, hln, e⟩ | ⟨rfl, hx8, hx32, hgx, hgy, hne, hln, e⟩ | ⟨x, rfl, hx8, hx32, hgx, hgy, hne, hx, ⟨hpb, hpb0⟩, hln, e⟩ | ⟨rfl, hx8, hx32, hgx, hgy, hne, hln, e⟩ | ⟨y, rfl, hx8, hx32, hgx, hgy, hne, hy, ⟨hu0, hu1⟩, hln, e⟩ | ⟨x, y, ⟨m2, m3, m4, m5, m7, m8⟩, hx8, hx32, hgx, hgy, hne, hx, ⟨hpb, hpb0⟩, hy, ⟨hu0, hu1⟩, hln, e⟩ | ⟨y, ⟨m2, m3, m4, m5, m7, m8⟩, hx8, hx32, hgx, hgy, hne, hy, ⟨hu0, hu1⟩, hln, e⟩ | ⟨x, ⟨m2, m3, m4, m5, m7, m8⟩, hx8, hx32, hgx, hgy, hne, hx, ⟨hpb, hpb0⟩, hln, e⟩ | ⟨⟨m2, m3, m4, m5, m7, m8⟩, hx8, hx32, hgx, hgy, hne, hln, e⟩
 ·rw [e]
  have hA : insA 3 g b = 0 := f_f hx8
  have hs : (hasB 3 g 8 && shB b 0 1) = false := by rw [hx8]; rfl
  have hp : padI 3 g b = -1 := f_f hx8
  have hn : numT 3 g b (insA 3 g b) = ⟨0, 0, false, 0, 0, u4 b 0, 0, shB b 0 4, 4⟩ := by rw [hA]; rw [show numT 3 g b 0 = ⟨0, 0, false, 0, 0, u4 b 0, 0, shB b 0 4, posN b 0 4⟩ from rfl]; rw [posN_y (show (0 : Int) + 4 ≤ b.length by omega)]; rfl
  rw [insM_o hp hn hs (shB_n (by omega)) (by dsimp only; omega)]
  refine ⟨rfl, ?_⟩
  rw [if_neg (by decide)]
  unfold gm
  dsimp only
  rw [show max (-1 : Int) 0 = 0 from rfl, Int.sub_zero, byL_drop (by decide) (by omega), List.drop_of_length_le (by show b.length ≤ 4; omega)]
  all_goals rfl
 ·rw [e]
  have hA : insA 4 g b = 0 := f_f hx8
  have hs : (hasB 4 g 8 && shB b 0 1) = false := by rw [hx8]; rfl
  have hp : padI 4 g b = -1 := f_f hx8
  have hn : numT 4 g b (insA 4 g b) = ⟨0, 0, false, 0, 0, 0, 0, false, 0⟩ := by rw [hA]; rw [show numT 4 g b 0 = ⟨0, 0, false, 0, 0, 0, 0, false, 0⟩ from rfl]
  rw [insM_o hp hn hs rfl (by dsimp only; omega)]
  refine ⟨rfl, ?_⟩
  rw [if_pos rfl]
  all_goals rfl
 ·rw [e]
  have hA : insA 8 g b = 0 := f_f hx8
  have hs : (hasB 8 g 8 && shB b 0 1) = false := by rw [hx8]; rfl
  have hp : padI 8 g b = -1 := f_f hx8
  have hn : numT 8 g b (insA 8 g b) = ⟨0, 0, false, 0, 0, 0, lowN (u4 b 0), shB b 0 4, 4⟩ := by rw [hA]; rw [show numT 8 g b 0 = ⟨0, 0, false, 0, 0, 0, lowN (u4 b 0), shB b 0 4, posN b 0 4⟩ from rfl]; rw [posN_y (show (0 : Int) + 4 ≤ b.length by omega)]; rfl
  rw [insM_o hp hn hs (shB_n (by omega)) (by dsimp only; omega)]
  refine ⟨rfl, ?_⟩
  rw [if_neg (by decide)]
  unfold gm
  dsimp only
  rw [show max (-1 : Int) 0 = 0 from rfl, Int.sub_zero, byL_drop (by decide) (by omega), List.drop_of_length_le (by show b.length ≤ 4; omega)]
  all_goals rfl
 ·rw [e]
  have hA : insA 7 g b = 0 := f_f hx8
  have hs : (hasB 7 g 8 && shB b 0 1) = false := by rw [hx8]; rfl
  have hp : padI 7 g b = -1 := f_f hx8
  have hn : numT 7 g b (insA 7 g b) = ⟨0, 0, false, 0, lowN (u4 b 0), u4 b 4, 0, shB b 0 8, 8⟩ := by rw [hA]; rw [show numT 7 g b 0 = ⟨0, 0, false, 0, lowN (u4 b 0), u4 b (posN b 0 4), 0, shB b 0 8, posN b (posN b 0 4) 4⟩ from rfl]; rw [posN_y (show (0 : Int) + 4 ≤ b.length by omega), posN_y (show (0 + 4 : Int) + 4 ≤ b.length by omega)]; rfl
  rw [insM_o hp hn hs (shB_n (by omega)) (by dsimp only; omega)]
  refine ⟨rfl, ?_⟩
  rw [if_neg (by decide)]
  unfold gm
  dsimp only
  rw [show max (-1 : Int) 0 = 0 from rfl, Int.sub_zero, byL_drop (by decide) (by omega)]
  all_goals rfl
 ·rw [e]
  have hA : insA 5 g b = 1 := (f_t hx8).trans (posN_y (by omega))
  have hs : (hasB 5 g 8 && shB b 0 1) = false := by rw [hx8, shB_n (by omega)]; rfl
  have hp : padI 5 g b = getN b 1 := f_t hx8
  have hn : numT 5 g b (insA 5 g b) = ⟨0, 0, false, lowN (u4 b 1), 0, 0, 0, shB b 1 4, 5⟩ := by rw [hA]; rw [show numT 5 g b 1 = ⟨0, 0, false, lowN (u4 b 1), 0, 0, 0, shB b 1 4, posN b 1 4⟩ from rfl]; rw [posN_y (show (1 : Int) + 4 ≤ b.length by omega)]; rfl
  rw [insM_o hp hn hs (shB_n (by omega)) (by dsimp only; omega)]
  refine ⟨rfl, ?_⟩
  rw [if_neg (by decide)]
  unfold gm
  dsimp only
  rw [show max (getN b 1) 0 = getN b 1 from by omega, byL_pad (by decide) hpb0 (by omega)]
  all_goals rfl
 ·rw [e]
  have hA : insA 5 g b = 0 := f_f hx8
  have hs : (hasB 5 g 8 && shB b 0 1) = false := by rw [hx8]; rfl
  have hp : padI 5 g b = -1 := f_f hx8
  have hn : numT 5 g b (insA 5 g b) = ⟨0, 0, false, lowN (u4 b 0), 0, 0, 0, shB b 0 4, 4⟩ := by rw [hA]; rw [show numT 5 g b 0 = ⟨0, 0, false, lowN (u4 b 0), 0, 0, 0, shB b 0 4, posN b 0 4⟩ from rfl]; rw [posN_y (show (0 : Int) + 4 ≤ b.length by omega)]; rfl
  rw [insM_o hp hn hs (shB_n (by omega)) (by dsimp only; omega)]
  refine ⟨rfl, ?_⟩
  rw [if_neg (by decide)]
  unfold gm
  dsimp only
  rw [show max (-1 : Int) 0 = 0 from rfl, Int.sub_zero, byL_drop (by decide) (by omega)]
  all_goals rfl
 ·rw [e]
  have hA : insA 2 g b = 0 := f_f hx8
  have hs : (hasB 2 g 8 && shB b 0 1) = false := by rw [hx8]; rfl
  have hp : padI 2 g b = -1 := f_f hx8
  have hn : numT 2 g b (insA 2 g b) = ⟨u1 b 4, lowN (u4 b 0), hiN (u4 b 0), 0, 0, 0, 0, shB b 0 5, 5⟩ := by rw [hA]; rw [show numT 2 g b 0 = ⟨u1 b (posN b 0 4), lowN (u4 b 0), hiN (u4 b 0), 0, 0, 0, 0, shB b 0 5, posN b (posN b 0 4) 1⟩ from rfl]; rw [posN_y (show (0 : Int) + 4 ≤ b.length by omega), posN_y (show (0 + 4 : Int) + 1 ≤ b.length by omega)]; rfl
  rw [insM_o hp hn hs (shB_n (by omega)) (by dsimp only; omega)]
  refine ⟨rfl, ?_⟩
  rw [if_neg (by decide)]
  unfold gm
  dsimp only
  rw [show max (-1 : Int) 0 = 0 from rfl, Int.sub_zero, byL_drop (by decide) (by omega)]
  all_goals rfl
 ·obtain rfl : t = 1 := by apply Decidable.byContradiction; intro hn1; rw [hasB_n32 hn1] at hx32; exact absurd hx32 (by simp)
  rw [e]
  have hA : insA 1 g b = 1 := (f_t hx8).trans (posN_y (by omega))
  have hs : (hasB 1 g 8 && shB b 0 1) = false := by rw [hx8, shB_n (by omega)]; rfl
  have hp : padI 1 g b = getN b 1 := f_t hx8
  have hn : numT 1 g b (insA 1 g b) = ⟨u1 b 5, lowN (u4 b 1), hiN (u4 b 1), 0, 0, 0, 0, shB b 1 5, 6⟩ := by rw [hA]; rw [show numT 1 g b 1 = ⟨u1 b (posN b 1 4), lowN (u4 b 1), hiN (u4 b 1), 0, 0, 0, 0, shB b 1 5, posN b (posN b 1 4) 1⟩ from (if_pos rfl).trans (if_pos hx32)]; rw [posN_y (show (1 : Int) + 4 ≤ b.length by omega), posN_y (show (1 + 4 : Int) + 1 ≤ b.length by omega)]; rfl
  rw [insM_o hp hn hs (shB_n (by omega)) (by dsimp only; omega)]
  refine ⟨rfl, ?_⟩
  rw [if_neg (by decide)]
  unfold gm
  dsimp only
  rw [show max (getN b 1) 0 = getN b 1 from by omega, byL_pad (by decide) hpb0 (by omega)]
  all_goals rfl
 ·obtain rfl : t = 1 := by apply Decidable.byContradiction; intro hn1; rw [hasB_n32 hn1] at hx32; exact absurd hx32 (by simp)
  rw [e]
  have hA : insA 1 g b = 0 := f_f hx8
  have hs : (hasB 1 g 8 && shB b 0 1) = false := by rw [hx8]; rfl
  have hp : padI 1 g b = -1 := f_f hx8
  have hn : numT 1 g b (insA 1 g b) = ⟨u1 b 4, lowN (u4 b 0), hiN (u4 b 0), 0, 0, 0, 0, shB b 0 5, 5⟩ := by rw [hA]; rw [show numT 1 g b 0 = ⟨u1 b (posN b 0 4), lowN (u4 b 0), hiN (u4 b 0), 0, 0, 0, 0, shB b 0 5, posN b (posN b 0 4) 1⟩ from (if_pos rfl).trans (if_pos hx32)]; rw [posN_y (show (0 : Int) + 4 ≤ b.length by omega), posN_y (show (0 + 4 : Int) + 1 ≤ b.length by omega)]; rfl
  rw [insM_o hp hn hs (shB_n (by omega)) (by dsimp only; omega)]
  refine ⟨rfl, ?_⟩
  rw [if_neg (by decide)]
  unfold gm
  dsimp only
  rw [show max (-1 : Int) 0 = 0 from rfl, Int.sub_zero, byL_drop (by decide) (by omega)]
  all_goals rfl
 ·rw [e]
  have hA : insA t g b = 1 := (f_t hx8).trans (posN_y (by omega))
  have hs : (hasB t g 8 && shB b 0 1) = false := by rw [hx8, shB_n (by omega)]; rfl
  have hp : padI t g b = getN b 1 := f_t hx8
  have hn : numT t g b (insA t g b) = ⟨0, 0, false, 0, 0, 0, 0, false, 1⟩ := by rw [hA]; rw [show numT t g b 1 = ⟨0, 0, false, 0, 0, 0, 0, false, 1⟩ from by unfold numT; split; exact if_neg (by rw [show hasB 1 g 32 = hasB t g 32 from by subst_vars; rfl, hx32]; simp); simp [m2, m3, m5, m7, m8]]
  rw [insM_o hp hn hs rfl (by dsimp only; omega)]
  refine ⟨rfl, ?_⟩
  rw [if_neg m4]
  unfold gm
  dsimp only
  rw [show max (getN b 1) 0 = getN b 1 from by omega, byL_pad (by decide) hpb0 (by omega)]
  all_goals rfl
 ·rw [e]
  have hA : insA t g b = 0 := f_f hx8
  have hs : (hasB t g 8 && shB b 0 1) = false := by rw [hx8]; rfl
  have hp : padI t g b = -1 := f_f hx8
  have hn : numT t g b (insA t g b) = ⟨0, 0, false, 0, 0, 0, 0, false, 0⟩ := by rw [hA]; rw [show numT t g b 0 = ⟨0, 0, false, 0, 0, 0, 0, false, 0⟩ from by unfold numT; split; exact if_neg (by rw [show hasB 1 g 32 = hasB t g 32 from by subst_vars; rfl, hx32]; simp); simp [m2, m3, m5, m7, m8]]
  rw [insM_o hp hn hs rfl (by dsimp only; omega)]
  refine ⟨rfl, ?_⟩
  rw [if_neg m4]
  unfold gm
  dsimp only
  rw [show max (-1 : Int) 0 = 0 from rfl, Int.sub_zero, byL_drop (by decide) (by omega)]
  all_goals rfl
theorem has8_t {t g : Int} (h : hasB t g 8 = true) : t = 0 ∨ t = 1 ∨ t = 5 := by
 apply Decidable.byContradiction
 intro hn
 rw [hasB_n8 (by omega) (by omega) (by omega)] at h
 exact absurd h (by simp)
theorem has32_t {t g : Int} (h : hasB t g 32 = true) : t = 1 := by
 apply Decidable.byContradiction
 intro hn
 rw [hasB_n32 hn] at h
 exact absurd h (by simp)
theorem ins_short {t g : Int} {b : List UInt8} (h : (b.length : Int) < ahI t g) : insS t g b = true := by
 obtain ⟨c8, c32, h8, h32, hc⟩ := ahI_cases t g
 rcases hc with ⟨h5, rfl, rfl, ha⟩ | ⟨h5, rfl, rfl, ha⟩ | ⟨h5, rfl, rfl, ha⟩ | ⟨h5, rfl, rfl, ha⟩ | ⟨h5, rfl, rfl, ha⟩ | ⟨h5, rfl, rfl, ha⟩
 ·subst h5
  by_cases h1 : b.length < 1
  ·unfold insS; rw [h8, shB_y (by omega)]; rfl
  ·have hA : insA 5 g b = 1 := (f_t h8).trans (posN_y (by omega))
   unfold insS
   rw [hA, show (numT 5 g b 1).sh = shB b 1 4 from rfl, shB_y (a := 1) (by omega), Bool.or_true]
 ·subst h5
  have hA : insA 5 g b = 0 := f_f h8
  unfold insS
  rw [hA, show (numT 5 g b 0).sh = shB b 0 4 from rfl, shB_y (a := 0) (n := 4) (by omega), Bool.or_true]
 ·obtain rfl := has32_t h32
  by_cases h1 : b.length < 1
  ·unfold insS; rw [h8, shB_y (by omega)]; rfl
  ·have hA : insA 1 g b = 1 := (f_t h8).trans (posN_y (by omega))
   unfold insS
   rw [hA, show (numT 1 g b 1).sh = shB b 1 5 from by unfold numT; rw [if_pos rfl, if_pos h32], shB_y (a := 1) (n := 5) (by omega), Bool.or_true]
 ·obtain rfl := has32_t h32
  have hA : insA 1 g b = 0 := f_f h8
  unfold insS
  rw [hA, show (numT 1 g b 0).sh = shB b 0 5 from by unfold numT; rw [if_pos rfl, if_pos h32], shB_y (a := 0) (n := 5) (by omega), Bool.or_true]
 ·unfold insS; rw [h8, shB_y (a := 0) (n := 1) (by omega)]; rfl
 ·omega
theorem ins_pad {t g s : Int} {b : List UInt8} (h8 : hasB t g 8 = true) (h : ¬ (b.length : Int) < ahI t g) (hp : (b.length : Int) - ahI t g < getN b 1) : insM t g s b = (fm0, 2, 1) := by
 have hk2 := kI_ah (t := t) (g := g)
 have hk : kI t g = 1 := f_t h8
 have hA : insA t g b = 1 := (f_t h8).trans (posN_y (by omega))
 have hpd : padI t g b = getN b 1 := f_t h8
 have key : (numT t g b 1).sh = false ∧ (numT t g b 1).pos = ahI t g := by
  rcases has8_t h8 with rfl | rfl | rfl
  ·have ha : ahI 0 g = 1 := by unfold ahI; rw [hk, f_f (hasB_n32 (by decide)), if_neg (by decide)]; rfl
   rw [ha]; exact ⟨rfl, rfl⟩
  ·rcases bTF (c := hasB 1 g 32) with h32 | h32
   ·have ha : ahI 1 g = 6 := by unfold ahI; rw [hk, f_t h32, if_neg (by decide)]; rfl
    rw [show numT 1 g b 1 = ⟨u1 b (posN b 1 4), lowN (u4 b 1), hiN (u4 b 1), 0, 0, 0, 0, shB b 1 5, posN b (posN b 1 4) 1⟩ from (if_pos rfl).trans (if_pos h32), ha]
    refine ⟨shB_n (by omega), ?_⟩
    show posN b (posN b 1 4) 1 = 6
    rw [posN_y (show (1 : Int) + 4 ≤ b.length by omega), posN_y (show (1 + 4 : Int) + 1 ≤ b.length by omega)]; rfl
   ·have ha : ahI 1 g = 1 := by unfold ahI; rw [hk, f_f h32, if_neg (by decide)]; rfl
    rw [show numT 1 g b 1 = ⟨0, 0, false, 0, 0, 0, 0, false, 1⟩ from (if_pos rfl).trans (if_neg (by rw [h32]; simp)), ha]
    exact ⟨rfl, rfl⟩
  ·have ha : ahI 5 g = 5 := by unfold ahI; rw [hk, f_f (hasB_n32 (by decide)), if_pos rfl]; rfl
   rw [ha]
   refine ⟨shB_n (a := 1) (n := 4) (by omega), ?_⟩
   show posN b 1 4 = 5
   rw [posN_y (show (1 : Int) + 4 ≤ b.length by omega)]; rfl
 have hS : insS t g b = false := by unfold insS; rw [hA, key.1, h8, shB_n (by omega)]; rfl
 unfold insM
 dsimp only
 rw [if_neg (by rw [hS]; simp), hA, key.2, hpd, if_pos hp]
theorem par_no {t g s : Int} {b : List UInt8} (h : ¬ fauM t g s b = (0, 0)) : parM t g s b = (fm0, fauM t g s b) := by
 rcases bTF (c := strOk t s) with h1 | h1
 ·have n1 : ¬ strOk t s = false := by rw [h1]; simp
  rcases bTF (c := lenB t g b.length) with h2 | h2
  ·have n2 : ¬ lenB t g b.length = false := by rw [h2]; simp
   have e : parM t g s b = insM t g s b := by unfold parM; rw [if_neg n1, if_neg n2]
   rw [e]
   by_cases hS : (b.length : Int) < ahI t g
   ·have hk := kI_ah (t := t) (g := g)
    have e2 : fauM t g s b = (if t = 0 then 1 else 2, 6) := by unfold fauM; rw [if_neg n1, if_neg n2, if_pos hS]
    rw [e2, ← ahI_sc (t := t) (g := g) (by omega)]
    unfold insM
    dsimp only
    rw [if_pos (ins_short hS)]
   ·by_cases hP : hasB t g 8 = true ∧ (b.length : Int) - ahI t g < getN b 1
    ·have e2 : fauM t g s b = (2, 1) := by unfold fauM; rw [if_neg n1, if_neg n2, if_neg hS, if_pos hP]
     rw [e2]
     exact ins_pad hP.1 hS hP.2
    ·exfalso
     apply h
     unfold fauM; rw [if_neg n1, if_neg n2, if_neg hS, if_neg hP]
  ·have e2 : fauM t g s b = (if t = 2 then 1 else 2, 6) := by unfold fauM; rw [if_neg n1, if_pos h2]
   rw [e2, ← lenB_sc h2]
   unfold parM; rw [if_neg n1, if_pos h2]
 ·have e2 : fauM t g s b = (2, 1) := if_pos h1
  rw [e2]
  unfold parM; rw [if_pos h1]
end Go.Proofs.Ytdalcgfnlbofdaa

set_option linter.unusedVariables false
set_option linter.unusedSimpArgs false
namespace Go.Proofs.Ytdalcgfnlbofdaa
open Go Go.Lf Go.Proofs
attribute [local irreducible] Lf.rg Lf.ro Lf.PWp Lf.SOp Lf.ACall Lf.Scoped Lf.dg Lf.dw
set_option maxRecDepth 20000
set_option maxHeartbeats 4000000
def rfR (t g s : Int) (b : List UInt8) : Fm := if fauM t g s b = (0, 0) then rfM t g s b else fm0
theorem fau_z {t g s : Int} {b : List UInt8} (h : (fauM t g s b).1 = 0) : fauM t g s b = (0, 0) := by
 unfold fauM at h ⊢
 repeat' split at h
 all_goals first | (exact absurd h (by decide)) | (simp only [*, if_true, if_false]; done) | skip
 all_goals (repeat' split)
 all_goals first | rfl | (exfalso; simp_all; done)
theorem par_all (t g s : Int) (b : List UInt8) : (parM t g s b).2 = fauM t g s b ∧ gm (parM t g s b).1 = gm (rfR t g s b) := by
 unfold rfR
 by_cases h : fauM t g s b = (0, 0)
 ·obtain ⟨h1, h2⟩ := par_ok h
  rw [if_pos h, h1, h2, h]; exact ⟨rfl, rfl⟩
 ·rw [if_neg h, par_no h]; exact ⟨rfl, rfl⟩
theorem rfparse (w t g s : Int) (r f : Bool) (b : List UInt8) (hg0 : 0 ≤ g) (hg1 : g < 256) (hb : b.length ≤ 1000000000) : AEq Try.prog 14 [.ag [i64 w, i64 t, i64 g, i64 s, bl r, .sl f false (b.map byteA)]] [] (.tu [.ag (fmA (rfR t g s b)), .ag [i64 (fauM t g s b).1, i64 (fauM t g s b).2]]) [] := by
 by_cases h : fauM t g s b = (0, 0)
 ·rw [show rfR t g s b = rfM t g s b from if_pos h, h]
  exact rfp_ok w t g s r f b hg0 hg1 hb h
 ·rw [show rfR t g s b = fm0 from if_neg h]
  exact rfp_fault w t g s r f b hg0 hg1 hb (fun e => h (fau_z e))
end Go.Proofs.Ytdalcgfnlbofdaa

set_option linter.unusedVariables false
set_option linter.unusedSimpArgs false
namespace Go.Proofs.Ytdalcgfnlbofdaa
open Go Go.Lf Go.Proofs
attribute [local irreducible] Lf.rg Lf.ro Lf.PWp Lf.SOp Lf.ACall Lf.Scoped Lf.dg
set_option maxRecDepth 20000
set_option maxHeartbeats 4000000
structure Rq where
 (w t g s : Int) (r : Bool) (b : List UInt8)
deriving DecidableEq
def okQ (r : Rq) : Prop := hdOk ⟨r.b.length, r.t, r.g, r.s, r.r⟩ ∧ fauM r.t r.g r.s r.b = (0, 0)
instance (r : Rq) : Decidable (okQ r) := by unfold okQ; infer_instance
def wouB : List (List UInt8) → List UInt8 → List (List UInt8)
 | [], _ => []
 | x :: l, d => if x = d then l else x :: wouB l d
structure Ow where
 (n : Int) (p : List (List UInt8))
def seeM (sd : Int) (q : Ow) (r : Rq) : Ow :=
 if okQ r then
  if r.t = 4 then (if r.w = 1 - sd ∧ hasB 4 r.g 1 = false then ⟨q.n + 1, q.p⟩ else if r.w = sd ∧ hasB 4 r.g 1 = true then ⟨q.n - 1, q.p⟩ else q)
  else if r.t = 6 then (if r.w = 1 - sd ∧ hasB 6 r.g 1 = false then ⟨q.n, q.p ++ [r.b]⟩ else if r.w = sd ∧ hasB 6 r.g 1 = true then ⟨q.n, wouB q.p r.b⟩ else q)
  else q
 else q
def seeL (sd : Int) : List Rq → Ow → Ow
 | [], q => q
 | r :: l, q => seeL sd l (seeM sd q r)
def ackS (sd : Int) : Rq := ⟨sd, 4, 1, 0, false, []⟩
def ackP (sd : Int) (b : List UInt8) : Rq := ⟨sd, 6, 1, 0, false, b⟩
def dutL (sd : Int) (q : Ow) : List Rq := List.replicate q.n.toNat (ackS sd) ++ q.p.map (ackP sd)
theorem seeL_app (sd : Int) : ∀ (a b : List Rq) (q : Ow), seeL sd (a ++ b) q = seeL sd b (seeL sd a q)
 | [], b, q => rfl
 | r :: a, b, q => seeL_app sd a b (seeM sd q r)
theorem ping_len {r : Rq} (h : okQ r) (ht : r.t = 6) : r.b.length = 8 := by
 obtain ⟨_, h⟩ := h
 rw [ht] at h
 unfold fauM at h
 split at h
 ·exact absurd h (by decide)
 ·split at h
  ·exact absurd h (by decide)
  ·rename_i hl
   cases hb : lenB 6 r.g r.b.length with
   | false => exact absurd hb hl
   | true =>
    unfold lenB at hb
    rw [if_neg (by decide), if_neg (by decide), if_pos rfl] at hb
    exact of_decide_eq_true hb
theorem wouB_mem {l : List (List UInt8)} {d x : List UInt8} (h : x ∈ wouB l d) : x ∈ l := by
 induction l with
 | nil => exact h
 | cons y l ih =>
  unfold wouB at h
  split at h
  ·exact List.mem_cons_of_mem _ h
  ·rcases List.mem_cons.1 h with rfl | h
   ·exact List.mem_cons_self
   ·exact List.mem_cons_of_mem _ (ih h)
theorem wouB_len (l : List (List UInt8)) (d : List UInt8) : (wouB l d).length ≤ l.length := by
 induction l with
 | nil => exact Nat.le_refl _
 | cons y l ih =>
  unfold wouB
  split
  ·rw [List.length_cons]; omega
  ·rw [List.length_cons, List.length_cons]; omega
def Ow8 (q : Ow) : Prop := ∀ b ∈ q.p, b.length = 8
theorem seeM_8 {sd : Int} {q : Ow} {r : Rq} (h : Ow8 q) : Ow8 (seeM sd q r) := by
 unfold seeM
 split
 ·rename_i ho
  split
  ·split
   ·exact h
   ·split <;> exact h
  ·split
   ·rename_i ht
    split
    ·intro b hb
     rcases List.mem_append.1 hb with hb | hb
     ·exact h b hb
     ·obtain rfl := List.mem_singleton.1 hb
      exact ping_len ho ht
    ·split
     ·intro b hb; exact h b (wouB_mem hb)
     ·exact h
   ·exact h
 ·exact h
theorem seeM_len (sd : Int) (q : Ow) (r : Rq) : (seeM sd q r).p.length ≤ q.p.length + 1 ∧ q.n - 1 ≤ (seeM sd q r).n ∧ (seeM sd q r).n ≤ q.n + 1 := by
 have h := wouB_len q.p r.b
 have e : (q.p ++ [r.b]).length = q.p.length + 1 := by rw [List.length_append]; rfl
 unfold seeM
 repeat' split
 all_goals (refine ⟨?_, ?_, ?_⟩ <;> (try dsimp only) <;> omega)
theorem seeL_8 {sd : Int} : ∀ {l : List Rq} {q : Ow}, Ow8 q → Ow8 (seeL sd l q)
 | [], _, h => h
 | r :: l, q, h => seeL_8 (l := l) (seeM_8 h)
theorem ackS_ok (sd : Int) : okQ (ackS sd) := by
 refine ⟨?_, ?_⟩
 ·show hdOk ⟨0, 4, 1, 0, false⟩; decide
 ·show fauM 4 1 0 [] = (0, 0); decide
theorem fau_6 {b : List UInt8} (h : b.length = 8) : fauM 6 1 0 b = (0, 0) := by
 have e1 : strOk 6 0 = true := by decide
 have e2 : lenB 6 1 b.length = true := by unfold lenB; rw [if_neg (by decide), if_neg (by decide), if_pos rfl]; exact decide_eq_true h
 have e3 : ahI 6 1 = 0 := by decide
 have e4 : hasB 6 1 8 = false := by decide
 unfold fauM
 rw [if_neg (by rw [e1]; decide), if_neg (by rw [e2]; decide), if_neg (by rw [e3]; omega), if_neg (by rw [e4]; simp)]
theorem ackP_ok {sd : Int} {b : List UInt8} (h : b.length = 8) : okQ (ackP sd b) := by
 refine ⟨?_, fau_6 h⟩
 show hdOk ⟨b.length, 6, 1, 0, false⟩
 rw [h]; decide
theorem see_ackS {sd : Int} (hs : sd = 0 ∨ sd = 1) (q : Ow) : seeM sd q (ackS sd) = ⟨q.n - 1, q.p⟩ := by
 unfold seeM
 rw [if_pos (ackS_ok sd), if_pos (show (ackS sd).t = 4 from rfl), if_neg (by show ¬ (sd = 1 - sd ∧ _); omega), if_pos ⟨rfl, show hasB _ 1 1 = true by decide⟩]
theorem see_ackP {sd : Int} (hs : sd = 0 ∨ sd = 1) {b : List UInt8} (hb : b.length = 8) (n : Int) (p : List (List UInt8)) : seeM sd ⟨n, b :: p⟩ (ackP sd b) = ⟨n, p⟩ := by
 unfold seeM
 rw [if_pos (ackP_ok hb), if_neg (show ¬ (ackP sd b).t = 4 by show ¬ (6 : Int) = 4; decide), if_pos (show (ackP sd b).t = 6 from rfl), if_neg (by show ¬ (sd = 1 - sd ∧ _); omega), if_pos ⟨rfl, show hasB _ 1 1 = true by decide⟩]
 show (⟨n, wouB (b :: p) b⟩ : Ow) = _
 unfold wouB
 rw [if_pos rfl]
theorem see_acks {sd : Int} (hs : sd = 0 ∨ sd = 1) : ∀ (k : Nat) (q : Ow), seeL sd (List.replicate k (ackS sd)) q = ⟨q.n - k, q.p⟩
 | 0, q => by rw [List.replicate_zero, seeL]; cases q; simp
 | k + 1, q => by rw [List.replicate_succ, seeL, see_ackS hs, see_acks hs k]; simp; omega
theorem see_pings {sd : Int} (hs : sd = 0 ∨ sd = 1) : ∀ (p : List (List UInt8)) (n : Int), (∀ b ∈ p, b.length = 8) → seeL sd (p.map (ackP sd)) ⟨n, p⟩ = ⟨n, []⟩
 | [], n, _ => rfl
 | b :: p, n, h => by
  rw [List.map_cons, seeL, see_ackP hs (h b List.mem_cons_self)]
  exact see_pings hs p n (fun x hx => h x (List.mem_cons_of_mem _ hx))
theorem dut_none {sd : Int} (hs : sd = 0 ∨ sd = 1) (l : List Rq) : dutL sd (seeL sd (l ++ dutL sd (seeL sd l ⟨0, []⟩)) ⟨0, []⟩) = [] := by
 have h8 : Ow8 (seeL sd l ⟨0, []⟩) := seeL_8 (fun b hb => by simp at hb)
 obtain ⟨⟨n, p⟩, hq⟩ : ∃ q, seeL sd l ⟨0, []⟩ = q := ⟨_, rfl⟩
 rw [seeL_app, hq]
 rw [hq] at h8
 unfold dutL
 dsimp only
 rw [seeL_app, see_acks hs, see_pings hs p _ h8]
 dsimp only
 rw [show (n - (n.toNat : Int)).toNat = 0 from by omega]; rfl
end Go.Proofs.Ytdalcgfnlbofdaa

set_option linter.unusedVariables false
set_option linter.unusedSimpArgs false
namespace Go.Proofs.Ytdalcgfnlbofdaa
open Go Go.Lf Go.Proofs
attribute [local irreducible] Lf.rg Lf.ro Lf.PWp Lf.SOp Lf.ACall Lf.Scoped Lf.dg Lf.dw
set_option maxRecDepth 20000
set_option maxHeartbeats 4000000
@[go_sem] def bsA (b : List UInt8) : List AV := [.sl false false (b.map byteA)]
@[go_sem] theorem purl_bs (l : List (List UInt8)) : purl (l.map bsA).flatten = true := purl_map (fun a => by simp [bsA, purl, pur]) l
@[go_sem] theorem fz_mapbs {κ : List Nat} {σ : Sto} (l : List (List UInt8)) : List.map (fzl κ σ) (l.map bsA) = l.map bsA := fz_mapg (fun _ => rfl) l
def idxP (d : List UInt8) : List (List UInt8) → Int → Int
 | [], _ => -1
 | x :: l, i => if x = d then i else idxP d l (i + 1)
end Go.Proofs.Ytdalcgfnlbofdaa

set_option linter.unusedVariables false
set_option linter.unusedSimpArgs false
namespace Go.Proofs.Ytdalcgfnlbofdaa
open Go Go.Lf Go.Proofs
attribute [local irreducible] Lf.rg Lf.ro Lf.PWp Lf.SOp Lf.ACall Lf.Scoped Lf.dg
set_option maxRecDepth 20000
set_option maxHeartbeats 4000000
theorem idxP_cases (d : List UInt8) : ∀ (l : List (List UInt8)) (i : Int), 0 ≤ i → (idxP d l i = -1 ∧ wouB l d = l) ∨ ∃ k : Nat, idxP d l i = i + k ∧ k < l.length ∧ wouB l d = l.eraseIdx k
 | [], i, _ => .inl ⟨rfl, rfl⟩
 | x :: l, i, h => by
  by_cases c : x = d
  ·refine .inr ⟨0, ?_, by simp, ?_⟩
   ·rw [idxP, if_pos c]; simp
   ·rw [wouB, if_pos c]; rfl
  ·rcases idxP_cases d l (i + 1) (by omega) with ⟨h1, h2⟩ | ⟨k, h1, h2, h3⟩
   ·refine .inl ⟨?_, ?_⟩
    ·rw [idxP, if_neg c, h1]
    ·rw [wouB, if_neg c, h2]
   ·refine .inr ⟨k + 1, ?_, by simpa using h2, ?_⟩
    ·rw [idxP, if_neg c, h1]; omega
    ·rw [wouB, if_neg c, h3]; rfl
theorem seeM_cases (sd : Int) (q : Ow) (r : Rq) :
    (¬ okQ r ∧ seeM sd q r = q) ∨ (okQ r ∧
      ((r.t = 4 ∧ r.w = 1 - sd ∧ hasB r.t r.g 1 = false ∧ seeM sd q r = ⟨q.n + 1, q.p⟩) ∨
       (r.t = 4 ∧ ¬ (r.w = 1 - sd ∧ hasB r.t r.g 1 = false) ∧ r.w = sd ∧ hasB r.t r.g 1 = true ∧ seeM sd q r = ⟨q.n - 1, q.p⟩) ∨
       (r.t = 6 ∧ r.w = 1 - sd ∧ hasB r.t r.g 1 = false ∧ seeM sd q r = ⟨q.n, q.p ++ [r.b]⟩) ∨
       (r.t = 6 ∧ ¬ (r.w = 1 - sd ∧ hasB r.t r.g 1 = false) ∧ r.w = sd ∧ hasB r.t r.g 1 = true ∧ seeM sd q r = ⟨q.n, wouB q.p r.b⟩) ∨
       ((¬ r.t = 4 ∧ ¬ r.t = 6 ∨ ¬ (r.w = 1 - sd ∧ hasB r.t r.g 1 = false) ∧ ¬ (r.w = sd ∧ hasB r.t r.g 1 = true)) ∧ seeM sd q r = q))) := by
  by_cases ho : okQ r
  · refine .inr ⟨ho, ?_⟩
    have e : seeM sd q r = if r.t = 4 then (if r.w = 1 - sd ∧ hasB 4 r.g 1 = false then ⟨q.n + 1, q.p⟩ else if r.w = sd ∧ hasB 4 r.g 1 = true then ⟨q.n - 1, q.p⟩ else q)
      else if r.t = 6 then (if r.w = 1 - sd ∧ hasB 6 r.g 1 = false then ⟨q.n, q.p ++ [r.b]⟩ else if r.w = sd ∧ hasB 6 r.g 1 = true then ⟨q.n, wouB q.p r.b⟩ else q)
      else q := if_pos ho
    rw [e]
    by_cases h4 : r.t = 4
    · rw [h4, if_pos rfl]
      by_cases c1 : r.w = 1 - sd ∧ hasB 4 r.g 1 = false
      · rw [if_pos c1]
        exact .inl ⟨rfl, c1.1, c1.2, rfl⟩
      · rw [if_neg c1]
        by_cases c2 : r.w = sd ∧ hasB 4 r.g 1 = true
        · rw [if_pos c2]
          exact .inr (.inl ⟨rfl, c1, c2.1, c2.2, rfl⟩)
        · rw [if_neg c2]
          exact .inr (.inr (.inr (.inr ⟨.inr ⟨c1, c2⟩, rfl⟩)))
    · rw [if_neg h4]
      by_cases h6 : r.t = 6
      · rw [h6, if_pos rfl]
        by_cases c1 : r.w = 1 - sd ∧ hasB 6 r.g 1 = false
        · rw [if_pos c1]
          exact .inr (.inr (.inl ⟨rfl, c1.1, c1.2, rfl⟩))
        · rw [if_neg c1]
          by_cases c2 : r.w = sd ∧ hasB 6 r.g 1 = true
          · rw [if_pos c2]
            exact .inr (.inr (.inr (.inl ⟨rfl, c1, c2.1, c2.2, rfl⟩)))
          · rw [if_neg c2]
            exact .inr (.inr (.inr (.inr ⟨.inr ⟨c1, c2⟩, rfl⟩)))
      · rw [if_neg h6]
        exact .inr (.inr (.inr (.inr ⟨.inl ⟨h4, h6⟩, rfl⟩)))
  · exact .inl ⟨ho, if_neg ho⟩
end Go.Proofs.Ytdalcgfnlbofdaa

set_option linter.unusedVariables false
set_option linter.unusedSimpArgs false
namespace Go.Proofs.Ytdalcgfnlbofdaa
open Go Go.Lf Go.Proofs Go.RowKit
attribute [local irreducible] Lf.rg Lf.ro Lf.PWp Lf.SOp Lf.ACall Lf.Scoped Lf.dg
set_option maxRecDepth 20000
set_option maxHeartbeats 4000000
theorem ustep_app {P : Program} {ops : Array Oper} {o : Oper} {a : Act} {w : World} {K : Act → World → Prop} {Q : Exit → Act → World → Prop} {E : Prop}
    (hg : o.guard = none) (s x : Operand) (t : TypeId) (hop : o.op = Op.call { callee := Callee.builtin Builtin.append, args := #[s, x], argTypes := #[t, t] })
    (e : TypeId) (i : TypeInfo) (size : Nat) (h1 : P.underlying t = some (.slice e)) (h2 : P.info? e = some i) (h4 : i.size = size)
    (b n cap : Nat) (cur : Array Value) (hb : w.heap[b]? = some (.cells cur e (0, 0))) (hs : a.eval s = .slice (some ⟨b, 0, none⟩) n cap)
    (ad : Addr) (m c : Nat) (news : List Value) (hx : a.eval x = .slice (some ad) m c) (hn : news.length = m * size) (hc : ∀ j u, news[j]? = some u → w.cell? (ad.add j) = some u) (h1c : ∀ u ∈ news, u.oneCell' = true)
    (hroom : n + m ≤ cap) (hfit : n * size + news.length ≤ cur.size)
    (hK : K (a.put o.dst (.slice (some ⟨b, 0, none⟩) (n + m) cap)) (w.setRow b (cur.toList.take (n * size) ++ news ++ cur.toList.drop (n * size + news.length)).toArray)) :
    if Region.wanted o (yielded ops a.tmps) = true then Oper.wp P o a w K Q else E := by
  have hw : Region.wanted o (yielded ops a.tmps) = true := by simp [Region.wanted, hg]
  rw [if_pos hw]
  subst h4
  have hrun := run_append_room (P := P) w t o.type e i h1 h2 b n cap cur hb ad m c news hn hc h1c hroom hfit
  unfold Oper.wp
  simp [execOp, hop, resolve, invoke, builtin, hs, hx, hrun, Result.andThen]
  rw [List.append_assoc] at hK
  exact hK
theorem urun_clear {P : Program} (w : World) (t e : TypeId) (z : Value) (sz : Nat) (ht : P.underlying t = some (.slice e)) (hv : ∀ w, (zeroValue e).run P w = .ok z w) (hz : z.cells.size = sz) (h1 : ∀ u ∈ z.cells.toList, u.oneCell' = true) (b o n c : Nat) (hn : 0 < n)
    (cur : Array Value) (hb : w.heap[b]? = some (.cells cur e (0, 0))) (hfit : o + n * sz ≤ cur.size) :
    ∃ zs : List Value, zs.length = n * sz ∧ ∀ ty, (Builtin.clear_ #[t] ty #[.slice (some ⟨b, o, none⟩) n c]).run P w = .ok (.tuple #[]) (w.setRow b (cur.toList.take o ++ zs ++ cur.toList.drop (o + n * sz)).toArray) := by
  have hl : (Builtin.zeroCells z.cells n).toList.length = n * sz := by rw [Array.length_toList, size_zeroCells, hz]
  refine ⟨(Builtin.zeroCells z.cells n).toList, hl, fun ty => ?_⟩
  have hst := run_storeCells_at (P := P) b o e (Builtin.zeroCells z.cells n).toList 0 cur w hb (by rw [hl]; omega) (by
    intro v hv'
    simp only [Builtin.zeroCells, Array.toList_map, List.mem_map] at hv'
    obtain ⟨j, _, rfl⟩ := hv'
    by_cases hj : j % z.cells.size < z.cells.size
    · rw [getElem!_pos z.cells _ hj]
      exact h1 _ (by simp)
    · rw [getElem!_neg z.cells _ hj]; rfl)
  rw [Nat.add_zero, hl] at hst
  obtain ⟨m, rfl⟩ : ∃ m, n = m + 1 := ⟨n - 1, by omega⟩
  simp [Builtin.clear_, run_underlying ht, hv, hst]
theorem uheap_two (w : World) (b : Nat) (cur : Array Value) (e : TypeId) (hb : w.drew.heap[b]? = some (.cells cur e (0, 0))) (c X : Array Value) : ((w.drew.setRow b c).setRow b X).heap = (w.setRow b X).heap := by
 have hb' : w.heap[b]? = some (.cells cur e (0, 0)) := hb
 apply Array.ext_getElem?
 intro i
 by_cases h : b = i
 ·subst h
  rw [setRow_heap _ b c X e _ (setRow_heap w.drew b cur c e _ hb), setRow_heap w b cur X e _ hb']
 ·rw [setRow_other _ b i _ (Ne.symm h), setRow_other _ b i _ (Ne.symm h), setRow_other _ b i _ (Ne.symm h)]; rfl
theorem take_mid {α : Type _} (a b c : List α) (k : Nat) (h : a.length + b.length = k) : (a ++ b ++ c).take k = a ++ b := by
 rw [← h, ← List.length_append, List.take_left]
theorem udel_go (b n cap i k : Nat) (cur : Array Value) (w : World) (hb : w.heap[b]? = some (.cells cur 28 (0, 0))) (hn : n ≤ cap) (hm : cap ≤ 9223372036854775807) (hk : i < n) (hki : k = i + 1) (hsz : cur.size = cap) (hone : ∀ u ∈ (cur.toList.take n).drop k, u.oneCell' = true) :
    Calls Try.prog 23 #[.slice (some ⟨b, 0, none⟩) n cap, .int .i64 i, .int .i64 k] w fun e w' => e = .returned (.slice (some ⟨b, 0, none⟩) (n - 1) cap) ∧ w'.os = w.os ∧ w'.tape = w.tape ∧ w'.output = w.output ∧
      ∃ rest : List Value, w'.heap = (w.setRow b (cur.toList.take i ++ (cur.toList.take n).drop k ++ rest).toArray).heap ∧ (cur.toList.take i ++ (cur.toList.take n).drop k ++ rest).length = cap := by
  obtain ⟨i0, hi0, hz1⟩ : ∃ q, Try.prog.info? 28 = some q ∧ q.size = 1 := ⟨_, rfl, rfl⟩
  obtain ⟨news, hnews⟩ : ∃ news, news = (cur.toList.take n).drop k := ⟨_, rfl⟩
  rw [← hnews] at hone ⊢
  have hlen : news.length = (n - k) * 1 := by rw [hnews, List.length_drop, List.length_take, Array.length_toList, hsz]; omega
  have hget : ∀ j u, news[j]? = some u → cur[k + j]? = some u := by
    intro j u hu
    rw [hnews, List.getElem?_drop, List.getElem?_take] at hu
    split at hu
    · rw [← Array.getElem?_toList]; exact hu
    · cases hu
  obtain ⟨A, hA, hsrc⟩ : ∃ A : Addr, (if cap = k then some (⟨b, 0, none⟩ : Addr) else some ⟨b, k, none⟩) = some A ∧ Hid (∀ j u, news[j]? = some u → w.drew.cell? (A.add j) = some u) := by
    by_cases h : cap = k
    · refine ⟨⟨b, 0, none⟩, by simp [h], fun j u hu => ?_⟩
      have h0 : news.length = 0 := by rw [hlen]; omega
      rw [List.length_eq_zero_iff.1 h0] at hu
      simp at hu
    · refine ⟨⟨b, k, none⟩, by simp [h], fun j u hu => ?_⟩
      rw [Addr.add_lit]
      show (w.cell? ⟨b, k + j, none⟩) = some u
      have := hget j u hu
      simp [World.cell?, hb, this]
  have s1 : Hid (news.length = (n - k) * 1) := hlen
  have s2 : Hid (∀ u ∈ news, u.oneCell' = true) := hone
  have s3 : Hid (w.drew.heap[b]? = some (.cells cur 28 (0, 0))) := hb
  have s4 : Hid (i * 1 + news.length ≤ cur.size) := by show i * 1 + news.length ≤ cur.size; rw [hlen, hsz]; omega
  obtain ⟨c1, hc1⟩ : ∃ c1, c1 = cur.toList.take (i * 1) ++ news ++ cur.toList.drop (i * 1 + news.length) := ⟨_, rfl⟩
  have hc1l : c1.length = cap := by rw [hc1]; simp [hlen, hsz]; omega
  obtain ⟨W1, hW1⟩ : ∃ W1, W1 = w.drew.setRow b c1.toArray := ⟨_, rfl⟩
  have hH1 : W1.heap[b]? = some (.cells c1.toArray 28 (0, 0)) := by rw [hW1]; exact setRow_heap w.drew b cur c1.toArray _ _ hb
  have hcl : ∃ zs : List Value, zs.length = 1 * 1 ∧ ∀ ty, (Builtin.clear_ #[34] ty #[.slice (some ⟨b, n - 1, none⟩) 1 (cap - (n - 1))]).run Try.prog W1 = .ok (.tuple #[]) (W1.setRow b (c1.take (n - 1) ++ zs ++ c1.drop (n - 1 + 1 * 1)).toArray) := by
    exact urun_clear (P := Try.prog) W1 34 28 _ 1 Try.underlying34 Try.zeroValue28 rfl (by decide) b (n - 1) 1 (cap - (n - 1)) (by decide) c1.toArray hH1 (by simp [hc1l]; omega)
  obtain ⟨zs, hzl, hcl0⟩ := hcl
  have hin : i + (n - k) = n - 1 := by omega
  have hcl : ∀ ty, (Builtin.clear_ #[34] ty #[.slice (some ⟨b, i + (n - k), none⟩) (n - (i + (n - k))) (cap - (i + (n - k)))]).run Try.prog W1 = .ok (.tuple #[]) (W1.setRow b (c1.take (n - 1) ++ zs ++ c1.drop (n - 1 + 1 * 1)).toArray) := by
    intro ty
    rw [hin, show n - (n - 1) = 1 by omega]
    exact hcl0 ty
  clear hcl0
  have hW : Hid (W1 = w.drew.setRow b c1.toArray) := hW1
  have C1 : Hid (c1 = cur.toList.take (i * 1) ++ news ++ cur.toList.drop (i * 1 + news.length)) := hc1
  have H1 : Hid (W1.heap[b]? = some (.cells c1.toArray 28 (0, 0))) := hH1
  have L1 : Hid (c1.length = cap) := hc1l
  have hkc : k ≤ cap := by omega
  have hk0' : ¬ (i = k) := by omega
  have hkn : n - 1 ≤ n := by omega
  have hkn2 : n - 1 ≤ cap := by omega
  have hi1 : i ≤ k := by omega
  have hi2 : k ≤ n := by omega
  have hi3 : i ≤ cap := by omega
  have hi4 : i ≤ n := by omega
  have Z : Hid (zs.length = 1 * 1) := hzl
  have SZ : Hid (cur.size = cap) := hsz
  have HK : Hid (k = i + 1) := hki
  clear hW1 hc1 hH1 hc1l hzl hget hnews hlen hone hb hsz hki hin
  go_enter Try.func23, Try.ntmps23
  go_wp2_with fail
  go_region_law (refine ustep_app rfl (.tmp 22) (.tmp 25) 34 rfl 28 i0 1 Try.underlying34 hi0 hz1 b i cap cur s3.out (by simp [Act.eval, Act.put]) A (n - k) (cap - k) news (by simp [Act.eval, Act.put]) s1.out hsrc.out s2.out (by omega) s4.out ?_; rw [← C1.out, ← hW.out])
  go_wp2
  go_ret
  have hki := HK.out
  have ht : c1.take (n - 1) = cur.toList.take i ++ news := by
    have l1 := s1.out
    have l2 := SZ.out
    rw [C1.out, Nat.mul_one]
    exact take_mid _ _ _ _ (by rw [List.length_take, Array.length_toList]; omega)
  rw [ht, hW.out]
  have hin : i + (n - k) = n - 1 := by omega
  refine ⟨congrArg (fun m => Ending.returned (Value.slice (some ⟨b, 0, none⟩) m cap)) hin, rfl, rfl, rfl, zs ++ c1.drop (n - 1 + 1 * 1), ?_, ?_⟩
  · have := uheap_two w b cur 28 s3.out c1.toArray (cur.toList.take i ++ news ++ zs ++ c1.drop (n - 1 + 1 * 1)).toArray
    rw [← List.append_assoc]
    exact this
  · have l1 := s1.out
    have l2 := SZ.out
    have l3 := Z.out
    have l4 := L1.out
    rw [List.length_append, List.length_append, List.length_append, List.length_take, List.length_drop, Array.length_toList]
    omega
theorem fit_us (n : Nat) (us sp : List Value) (h : us.length = n) (i : Nat) (hi : i ≤ n) : (us ++ sp).toArray.toList.take i = us.take i ∧ ((us ++ sp).toArray.toList.take n).drop (i + 1) = us.drop (i + 1) := by
 constructor
 ·show (us ++ sp).take i = _
  rw [List.take_append_of_le_length (by omega)]
 ·show ((us ++ sp).take n).drop (i + 1) = _
  rw [← h, List.take_left]
theorem bs_flat (l : List (List UInt8)) : (l.map bsA).flatten = l.map (fun b => AV.sl false false (b.map byteA)) := by
 induction l with
 | nil => rfl
 | cons b l ih => rw [List.map_cons, List.flatten_cons, ih]; rfl
theorem udel_f (l : List (List UInt8)) (s i : Nat) (h : i < l.length) : AEq Try.prog 23 [.row 0 s, i64 i, i64 (i + 1)] [.row s 28 1 (l.map bsA)] (.row 0 (s + 1)) [.row (s + 1) 28 1 ((l.eraseIdx i).map bsA)] := by
  unfold AEq ACall
  intro ρ w vs hr hG hv
  match vs, hv with
  | [v0, v1, v2], hv =>
  simp only [VRl, VR, and_true] at hv
  obtain ⟨⟨_, hv0⟩, rfl, rfl⟩ := hv
  rw [show ((i : Int) + 1) = ((i + 1 : Nat) : Int) from rfl]
  have hv0 := (hv0 s 28 1 (l.map bsA) rfl).2 rfl
  subst hv0
  obtain ⟨h0, h00, hO⟩ := hr.obj 0 _ rfl
  have all : ∀ q ∈ (l.eraseIdx i).map bsA, q.length = 1 := by intro q hq; simp only [List.mem_map] at hq; obtain ⟨_, _, rfl⟩ := hq; rfl
  have fin : ∀ (v' : Value) (w' : World), w'.os = w.os → w'.tape = w.tape → w'.output = w.output → w.heap.size ≤ w'.heap.size →
      (∀ b, b < w.heap.size → blk (ρ 0) ≠ some b → w'.heap[b]? = w.heap[b]?) → (∀ b, blk v' = some b → blk (ρ 0) = some b ∨ w.heap.size ≤ b) →
      (((∃ ad, v' = .slice ad 0 0) ∧ (l.eraseIdx i).map bsA = []) ∨ ∃ b cap, ∃ us sp : List Value, v' = .slice (some ⟨b, 0, none⟩) ((l.eraseIdx i).map bsA).length cap ∧ w'.heap[b]? = some (.cells (us ++ sp).toArray 28 (0, 0)) ∧ ((l.eraseIdx i).map bsA).length ≤ cap ∧ (0 < cap ∧ cap ≤ maxLen) ∧ (us ++ sp).length = cap * 1 ∧ (∀ u ∈ us, u.oneCell' = true) ∧ VRl [.row s 28 1 (l.map bsA)] ρ w ((l.eraseIdx i).map bsA).flatten us) →
      ∃ r σ' ρ' v, Ending.returned v' = .returned v ∧ (r = AV.row 0 (s + 1) ∧ σ' = [Ob.row (s + 1) 28 1 ((l.eraseIdx i).map bsA)]) ∧ Rel σ' ρ' w' ∧ VR σ' ρ' w' r v ∧ Step 1 [.row s 28 1 (l.map bsA)] ρ w σ' ρ' w' := by
    intro v' w' os tp ou hsz hk hbl hrow
    have hs : [Ob.row s 28 1 (l.map bsA)][0]? = some (Ob.row s 28 1 (l.map bsA)) := rfl
    have hobj : ObjStep (some (Ob.row s 28 1 (l.map bsA))) (some (Ob.row (s + 1) 28 1 ((l.eraseIdx i).map bsA))) (ρ 0) v' := by simp only [ObjStep, true_and]; omega
    have st := step_set (σ := [Ob.row s 28 1 (l.map bsA)]) (ρ := ρ) (w := w) (w' := w') (r := v') hs rfl hobj os tp ou hsz hk (fun b _ => hbl b)
    refine ⟨_, _, upd ρ 0 v', v', rfl, ⟨rfl, rfl⟩, rel_set (σ := [Ob.row s 28 1 (l.map bsA)]) hr hs rfl hobj os tp ou hsz hk (fun b _ => hbl b) ⟨all, h00, ?_⟩, ?_, st⟩
    · rcases hrow with h | ⟨b, cap, us, sp, k1, k2, k3, k4, k5, k6, k7⟩
      · exact .inl h
      · exact .inr ⟨b, cap, us, sp, k1, k2, k3, k4, k5, k6, VRl.carry st _ _ k7⟩
    · simp only [VR]
      refine ⟨by simp, fun s' e' sz' xs' hs' => ?_⟩
      simp at hs'
      obtain ⟨rfl, _⟩ := hs'
      exact ⟨Nat.le_refl _, fun _ => by rw [upd_same]⟩
  rcases hO with ⟨⟨ad, hO⟩, hx⟩ | ⟨b, cap, us, sp, hb', hh, hle, hm, hc, hone, hl⟩
  · have hx : l = [] := by simpa using hx
    subst hx
    exact absurd h (Nat.not_lt_zero _)
  · have hlu := VRl_len _ _ hl
    rw [bs_flat, List.length_map] at hlu
    rw [List.length_map] at hb' hle
    have hmx : cap ≤ 9223372036854775807 := by have := hm.2; unfold maxLen at this; omega
    obtain ⟨f1, f2⟩ := fit_us l.length us sp hlu.symm i (by omega)
    have hle' : ((l.eraseIdx i).map bsA).length = l.length - 1 := by rw [List.length_map, List.length_eraseIdx_of_lt h]
    have hflat : VRl [.row s 28 1 (l.map bsA)] ρ w ((l.eraseIdx i).map bsA).flatten (us.take i ++ us.drop (i + 1)) := by
      rw [List.eraseIdx_eq_take_drop_succ, bs_flat, List.map_append, List.map_take, List.map_drop, ← bs_flat]
      exact VRl_app _ _ _ _ (VRl_take _ _ _ hl) (VRl_drop _ _ _ hl)
    have hone' : ∀ u ∈ us.take i ++ us.drop (i + 1), u.oneCell' = true := by
      intro u hu
      rcases List.mem_append.1 hu with hu | hu
      · exact hone u (List.mem_of_mem_take hu)
      · exact hone u (List.mem_of_mem_drop hu)
    rw [hb']
    refine (udel_go b l.length cap i (i + 1) (us ++ sp).toArray w hh hle hmx h rfl (by simpa using hc) (by rw [f2]; intro u hu; exact hone u (List.mem_of_mem_drop hu))).mono ?_
    rintro e w' ⟨rfl, os, tp, ou, rest, hhp, hrl⟩
    rw [f1, f2] at hhp hrl
    have hsz : w'.heap.size = w.heap.size := by rw [hhp]; simp
    refine fin _ _ os tp ou (by omega) (fun c _ hne => ?_) (fun c hc => .inl (by rw [hb']; exact hc)) (.inr ⟨b, cap, us.take i ++ us.drop (i + 1), rest, by rw [hle'], ?_, by rw [hle']; omega, hm, by rw [hrl]; omega, hone', hflat⟩)
    · rw [hhp]
      exact setRow_other w b c _ (fun e => hne (by rw [hb', e]; simp [blk]; omega))
    · rw [hhp]
      exact setRow_heap w b _ _ _ _ hh
end Go.Proofs.Ytdalcgfnlbofdaa

set_option linter.unusedVariables false
set_option linter.unusedSimpArgs false
namespace Go.Proofs.Ytdalcgfnlbofdaa
open Go Go.Lf Go.Proofs
attribute [local irreducible] Lf.rg Lf.ro Lf.PWp Lf.SOp Lf.ACall Lf.Scoped Lf.dg Lf.dw
set_option maxRecDepth 20000
set_option maxHeartbeats 4000000
theorem bs_at {l : List (List UInt8)} {i : Nat} {d : List UInt8} (h : l[i]? = some d) : (l.map bsA)[i]? = some [.sl false false (d.map byteA)] := by rw [List.getElem?_map, h]; rfl
theorem bs_drop {l : List (List UInt8)} {i : Nat} {d : List UInt8} (h : l[i]? = some d) : l.drop i = d :: l.drop (i + 1) := by
 obtain ⟨hi, h⟩ := List.getElem?_eq_some_iff.1 h
 rw [← h, List.drop_eq_getElem_cons hi]
theorem see1 (f : Bool) (b d : List UInt8) (g st : Int) : AEq Try.prog 21 [.sl f false (b.map byteA), .ptr 0 0] [.box [i64 6, i64 g, i64 st, i64 (-1), .sl false false (d.map byteA), .sl true false [], i64 0, i64 0, bl false, i64 0, i64 0, i64 0, i64 0]] (bl (decide (b = d))) [.box [i64 6, i64 g, i64 st, i64 (-1), .sl false false (d.map byteA), .sl true false [], i64 0, i64 0, bl false, i64 0, i64 0, i64 0, i64 0]] := by
 refine acall_body Try.func21 rfl Try.ntmps21 (by simp) (fun hsc => ?_); simp only [Lf.enter, Nat.reduceAdd]; clear hsc
 have hU := True.intro
 repeat' (first | (guard_target =~ PWp _ _ _ _ _ _ _; first | (refine pwp_seq_k (fun K hK => ?_)) | (refine pwp_rg_then ?_) | (refine pwp_ret ?_)) | (guard_target =~ rg _ _ _ _ _ _ _; first | (guard_target =~ rg _ _ _ [] _ _ _; first | (refine rg_end ?_)) | (refine rg_a rfl (h := ?_)) | (refine rg_v rfl (h := ?_)) | (refine rg_s rfl ?_)) | (guard_target =~ SOp _ _ _ _ _ _; first | (guard_target =~ SOp _ _ ⟨_, .call ⟨.value (.func 22), _, _⟩, _, _, _, none⟩ _ _ _; first | (refine n_call (f := 22) rfl Try.call22 (h := AEq.pure' agT (osame_is _ _ _ _ _ _) (hq := ?_))))) | (guard_target =~ (_ ∨ _) ∧ _; first | ((refine end_d [0] (by rw [Try.results21, Lf.res1]) (ale_1 ?_) ?_) <;> (try (first | exact aleT | exact stq (by with_reducible rfl) | exact stq (by rfl) | exact stq (by simp (disch := omega) only [go_sem, seval, ↓reduceIte, hU]))))) | (refine hK _ _ ?_; clear hK K))
 all_goals first | exact ale_bl rfl | trace_state
theorem idxp (s : Nat) (l : List (List UInt8)) (d : List UInt8) (g st : Int) (h : l.length ≤ 1000000) : AEq Try.prog 20 [.row 0 s, .fn 21 [.ptr 1 0]] [.row s 28 1 (l.map bsA), .box [i64 6, i64 g, i64 st, i64 (-1), .sl false false (d.map byteA), .sl true false [], i64 0, i64 0, bl false, i64 0, i64 0, i64 0, i64 0]] (i64 (idxP d l 0)) [.row s 28 1 (l.map bsA), .box [i64 6, i64 g, i64 st, i64 (-1), .sl false false (d.map byteA), .sl true false [], i64 0, i64 0, bl false, i64 0, i64 0, i64 0, i64 0]] := by
 refine acall_body Try.func20 rfl Try.ntmps20 (by simp) (fun hsc => ?_); simp only [Lf.enter, Nat.reduceAdd]; clear hsc
 have hU := True.intro
 repeat' (first | (guard_target =~ PWp _ _ _ _ _ _ _; first | (refine pwp_seq_k (fun K hK => ?_)) | (refine pwp_block ?_) | (refine pwp_rg_then ?_)) | (guard_target =~ rg _ _ _ _ _ _ _; first | (guard_target =~ rg _ _ _ [] _ _ _; first | (refine rg_end ?_)) | (refine rg_a rfl (h := ?_)) | (refine rg_v rfl (h := ?_))) | (refine hK _ _ ?_; clear hK K))
 refine pwp_loop_g [4, 5, 8, 9, 10, 11, 12, 13, 14, 15, 16, 17, 18] [0, 1] (fun i : Nat => [(8, i64 i)]) (fun _ => [.row s 28 1 (l.map bsA), .box [i64 6, i64 g, i64 st, i64 (-1), .sl false false (d.map byteA), .sl true false [], i64 0, i64 0, bl false, i64 0, i64 0, i64 0, i64 0]]) (fun i => i ≤ l.length ∧ idxP d l 0 = idxP d (l.drop i) i) (fun i => l.length - i) 0 (fun _ => rfl) rfl rfl ⟨Nat.zero_le _, rfl⟩ ?_ rfl (by intro s i x h; simp only [List.mem_cons, Prod.mk.injEq, List.not_mem_nil, or_false] at h; obtain ⟨rfl, _⟩ := h; decide) ?_
 ·(refine ⟨⟨_, sT, ?_⟩, trivial⟩ <;> (try (first | exact aleT)))
 ·rintro i ⟨hi, hk⟩
  simp only [mask, List.map_cons, List.map_nil, List.cons_append, List.nil_append]
  by_cases hlt : i < l.length
  ·obtain ⟨x, hd⟩ := ex_at hlt
   have hm := bs_at hd
   rw [bs_drop hd, idxP] at hk
   by_cases h1 : x = d
   ·rw [if_pos h1] at hk
    have h2 : decide (x = d) = true := decide_eq_true h1
    have hU := And.intro @hm (@h2)
    repeat' (first | (guard_target =~ PWp _ _ _ _ _ _ _; first | (refine pwp_seq_k (fun K hK => ?_)) | (refine pwp_block ?_) | (refine pwp_rg_then ?_) | (refine pwp_ret ?_) | (refine pwp_skip ?_) | ((refine pwp_cond_d (fun hcd => ?_) (fun hcd => ?_)) <;> (try simp only [hcP] at hcd) <;> (try exact cdT))) | (guard_target =~ rg _ _ _ _ _ _ _; first | (guard_target =~ rg _ _ _ [] _ _ _; first | (refine rg_end ?_)) | (refine rg_a rfl (h := ?_)) | (refine rg_v rfl (h := ?_)) | (refine rg_s rfl ?_)) | (guard_target =~ SOp _ _ _ _ _ _; first | (guard_target =~ SOp _ _ ⟨_, .call ⟨.value (.tmp _), _, _⟩, _, _, _, none⟩ _ _ _; first | (refine n_callf (f := 21) rfl sT Try.call21 sT (AEq.sub' [_] (by first | ((repeat' (first | exact trivial | (first | exact arg_lit | exact arg_sl id id | exact arg_nil | exact arg_sl (by simp) id | exact arg_sl (by simp) (fun _ => rfl) | exact arg_row_m (by rfl) (by rfl) (fun _ => rfl) | exact arg_vw_m (by rfl) (by rfl) (fun _ => rfl) | exact arg_rn (by rfl) (by rfl) | exact arg_junk | exact arg_row_mm (by rfl) (by rfl) (fun _ => rfl)) | refine ⟨?_, ?_⟩)); done) | fail) (by first | (refine SubOk.mk' ?_ (by first | ((repeat' (first | exact trivial | refine ⟨by rfl, by first | rfl | exact purl_map (fun _ => rfl) _, ?_⟩)); done) | fail); rfl) | fail) (see1 _ _ _ _ _) (by first | (simp (disch := omega) only [go_sem, seval, ↓reduceIte, hU]; done) | rfl) (by first | rfl | (simp (disch := omega) only [List.all_cons, List.all_nil, okP, Bool.and_self, go_sem, seval]; done)) sT sT ?_))) | (guard_target =~ SOp _ _ ⟨_, .indexAddr _ _ _, _, _, _, none⟩ _ _ _; first | (refine n_index_row rfl (hK := ?_)))) | (guard_target =~ (_ ∨ _) ∧ _; first | ((refine end_d [0, 1] (by rw [Try.results20, Lf.res1]) (ale_1 ?_) ?_) <;> (try (first | exact aleT | exact stq (by with_reducible rfl) | exact stq (by rfl) | exact stq (by simp (disch := omega) only [go_sem, seval, ↓reduceIte, hU]))))) | (refine hK _ _ ?_; clear hK K))
    all_goals first | exact ale_i hk.symm | trace_state
   ·rw [if_neg h1] at hk
    have h2 : decide (x = d) = false := decide_eq_false h1
    have hU := And.intro @hm (@h2)
    repeat' (first | (guard_target =~ PWp _ _ _ _ _ _ _; first | (refine pwp_seq_k (fun K hK => ?_)) | (refine pwp_block ?_) | (refine pwp_rg_then ?_) | (refine pwp_skip ?_) | ((refine pwp_cond_d (fun hcd => ?_) (fun hcd => ?_)) <;> (try simp only [hcP] at hcd) <;> (try exact cdT))) | (guard_target =~ rg _ _ _ _ _ _ _; first | (guard_target =~ rg _ _ _ [] _ _ _; first | (refine rg_end ?_)) | (refine rg_a rfl (h := ?_)) | (refine rg_v rfl (h := ?_)) | (refine rg_s rfl ?_)) | (guard_target =~ SOp _ _ _ _ _ _; first | (guard_target =~ SOp _ _ ⟨_, .call ⟨.value (.tmp _), _, _⟩, _, _, _, none⟩ _ _ _; first | (refine n_callf (f := 21) rfl sT Try.call21 sT (AEq.sub' [_] (by first | ((repeat' (first | exact trivial | (first | exact arg_lit | exact arg_sl id id | exact arg_nil | exact arg_sl (by simp) id | exact arg_sl (by simp) (fun _ => rfl) | exact arg_row_m (by rfl) (by rfl) (fun _ => rfl) | exact arg_vw_m (by rfl) (by rfl) (fun _ => rfl) | exact arg_rn (by rfl) (by rfl) | exact arg_junk | exact arg_row_mm (by rfl) (by rfl) (fun _ => rfl)) | refine ⟨?_, ?_⟩)); done) | fail) (by first | (refine SubOk.mk' ?_ (by first | ((repeat' (first | exact trivial | refine ⟨by rfl, by first | rfl | exact purl_map (fun _ => rfl) _, ?_⟩)); done) | fail); rfl) | fail) (see1 _ _ _ _ _) (by first | (simp (disch := omega) only [go_sem, seval, ↓reduceIte, hU]; done) | rfl) (by first | rfl | (simp (disch := omega) only [List.all_cons, List.all_nil, okP, Bool.and_self, go_sem, seval]; done)) sT sT ?_))) | (guard_target =~ SOp _ _ ⟨_, .indexAddr _ _ _, _, _, _, none⟩ _ _ _; first | (refine n_index_row rfl (hK := ?_)))) | (refine hK _ _ ?_; clear hK K))
    refine ⟨i + 1, ⟨by omega, hk⟩, by omega, ?_, (by repeat' (first | exact agr_refl | refine agr_cons (by rfl) ?_)), (by first | rfl | (simp (disch := omega) only [go_sem, seval, ↓reduceIte, hU]; done) | (simp (disch := omega) only [go_sem, seval, ↓reduceIte, hU]; rfl))⟩
    (refine ⟨⟨_, sT, ?_⟩, trivial⟩ <;> (try (first | exact aleT)))
  ·have he : idxP d l 0 = -1 := by rw [hk, List.drop_eq_nil_of_le (by omega)]; rfl
   repeat' (first | (guard_target =~ PWp _ _ _ _ _ _ _; first | (refine pwp_seq_k (fun K hK => ?_)) | (refine pwp_rg_then ?_) | (refine pwp_ret ?_) | (refine pwp_exit ?_) | ((refine pwp_cond_d (fun hcd => ?_) (fun hcd => ?_)) <;> (try simp only [hcP] at hcd) <;> (try exact cdT))) | (guard_target =~ rg _ _ _ _ _ _ _; first | (guard_target =~ rg _ _ _ [] _ _ _; first | (refine rg_end ?_)) | (refine rg_a rfl (h := ?_)) | (refine rg_v rfl (h := ?_))) | (guard_target =~ (_ ∨ _) ∧ _; first | ((refine end_d [0, 1] (by rw [Try.results20, Lf.res1]) (ale_1 ?_) ?_) <;> (try (first | exact aleT | exact stq (by with_reducible rfl) | exact stq (by rfl) | exact stq (by simp (disch := omega) only [go_sem, seval, ↓reduceIte, hU]))))) | (refine hK _ _ ?_; clear hK K) | (apply_assumption (exfalso := false) (symm := false)))
   all_goals first | exact ale_i he.symm | trace_state
end Go.Proofs.Ytdalcgfnlbofdaa

